/- Layer 3: counters, the plain law. -/
import Derived.Test.YtfcfgbejpcmmkaaDoorA8
import Derived.Test.YtfcfgbejpcmmkaaDoorIter
import Derived.Test.YtfcfgbejpcmmkaaDoorSort
namespace Go.Proofs.YtfcfgbejpcmmkaaDoor
open Go.Dbr
set_option maxRecDepth 100000
set_option maxHeartbeats 2000000
set_option linter.unusedVariables false
set_option linter.unusedSimpArgs false

abbrev RCnt := (List UInt8) × (UInt64) × Unit
abbrev fCnt : RCnt → List Value := (fun p : (List UInt8) × (UInt64) × Unit => (fun l : List UInt8 => [.string (bstr l)]) p.1 ++ (fun p : (UInt64) × Unit => (fun n : UInt64 => [uv64 n]) p.1 ++ (fun _ : Unit => []) p.2) p.2)
open Go.Sort
abbrev CM := List (Bs × UInt64)
/-- so many more, and no more than there may be -/
def satA (a n : UInt64) : UInt64 := if n ≤ a + n then a + n else 18446744073709551615
def mAt (m : CM) (k : Bs) : UInt64 := (kvAt m k).getD 0
def putC (m : CM) (k : Bs) (n : UInt64) : CM := kvPut k (satA (mAt m k) n) m
/-- all that was counted, by rising names -/
def cnts (m : CM) : List RCnt := (sortK m).map fun k => (k, mAt m k, ())
def upC (name : Bs) (n : UInt64) (c : RCnt) : RCnt := if c.1 = name then (c.1, satA c.2.1 n, ()) else c
def cntR (name : Bs) (n : UInt64) : Bool → List RCnt → List RCnt
  | d, [] => if d then [] else [(name, n, ())]
  | d, c :: r => (if d = false ∧ name < c.1 then [(name, n, ())] else []) ++ (upC name n c :: cntR name n (d || decide (name < c.1) || decide (c.1 = name)) r)
def insC (name : Bs) (n : UInt64) : List RCnt → List RCnt
  | [] => [(name, n, ())]
  | c :: r => if name < c.1 then (name, n, ()) :: c :: r else if c.1 = name then (name, satA c.2.1 n, ()) :: r else c :: insC name n r
theorem cnt_done {name : Bs} {n : UInt64} : ∀ {xs : List RCnt}, (∀ x ∈ xs, name < x.1) → cntR name n true xs = xs
  | [], _ => rfl
  | c :: r, h => by
    have h1 := h c List.mem_cons_self
    rw [cntR, if_neg (by simp), upC, if_neg (fun e => by rw [e] at h1; exact List.lt_irrefl _ h1), Bool.true_or, Bool.true_or, cnt_done fun x hx => h x (List.mem_cons_of_mem _ hx)]
    rfl
theorem cnt_ins {name : Bs} {n : UInt64} : ∀ {xs : List RCnt}, xs.Pairwise (fun x y => x.1 < y.1) → cntR name n false xs = insC name n xs
  | [], _ => rfl
  | c :: r, h => by
    obtain ⟨h1, h2⟩ := List.pairwise_cons.1 h
    rw [cntR, insC]
    by_cases g : name < c.1
    · rw [if_pos ⟨rfl, g⟩, if_pos g, upC, if_neg (fun e => by rw [e] at g; exact List.lt_irrefl _ g), decide_eq_true g, Bool.or_true, Bool.true_or, cnt_done fun x hx => List.lt_trans g (h1 x hx)]
      rfl
    · rw [if_neg (fun q => g q.2), if_neg g, decide_eq_false g]
      by_cases e : c.1 = name
      · rw [if_pos e, upC, if_pos e, decide_eq_true e, Bool.or_true, cnt_done fun x hx => by rw [← e]; exact h1 x hx, e]
        rfl
      · rw [if_neg e, upC, if_neg e, decide_eq_false e, Bool.or_false, Bool.or_false, cnt_ins h2]
        rfl
theorem lt_of_ne {a b : Bs} (h1 : ¬ a < b) (h2 : ¬ b = a) : b < a := Decidable.byContradiction fun h3 => h2 (List.le_antisymm (List.not_lt.1 h1) (List.not_lt.1 h3))
theorem ins_mem {name : Bs} {n : UInt64} {y : RCnt} : ∀ {xs : List RCnt}, y ∈ insC name n xs → y.1 = name ∨ y ∈ xs
  | [], h => by rw [insC, List.mem_singleton] at h; exact .inl (by rw [h])
  | c :: r, h => by
    rw [insC] at h
    split at h
    · rcases List.mem_cons.1 h with h | h
      · exact .inl (by rw [h])
      · exact .inr h
    · split at h
      · rcases List.mem_cons.1 h with h | h
        · exact .inl (by rw [h])
        · exact .inr (List.mem_cons_of_mem _ h)
      · rcases List.mem_cons.1 h with h | h
        · exact .inr (by rw [h]; exact List.mem_cons_self)
        · exact (ins_mem h).imp id (List.mem_cons_of_mem _)
theorem ins_sorted {name : Bs} {n : UInt64} : ∀ {xs : List RCnt}, xs.Pairwise (fun x y => x.1 < y.1) → (insC name n xs).Pairwise (fun x y => x.1 < y.1)
  | [], _ => by rw [insC]; exact List.pairwise_singleton _ _
  | c :: r, h => by
    obtain ⟨h1, h2⟩ := List.pairwise_cons.1 h
    rw [insC]
    split
    · rename_i g
      refine List.pairwise_cons.2 ⟨fun x hx => ?_, h⟩
      rcases List.mem_cons.1 hx with rfl | hx
      · exact g
      · exact List.lt_trans g (h1 x hx)
    · rename_i g
      split
      · rename_i e
        exact List.pairwise_cons.2 ⟨fun x hx => by rw [← e]; exact h1 x hx, h2⟩
      · rename_i e
        refine List.pairwise_cons.2 ⟨fun x hx => ?_, ins_sorted h2⟩
        rcases ins_mem hx with hx | hx
        · rw [hx]; exact lt_of_ne g e
        · exact h1 x hx
/-- what is counted, of both -/
structure InvC (m : CM) (xs : List RCnt) : Prop where
  sorted : xs.Pairwise (fun x y => x.1 < y.1)
  keys : (m.map (·.1)).Perm (xs.map (·.1))
  vals : ∀ x ∈ xs, kvAt m x.1 = some x.2.1
theorem InvC.nil : InvC [] [] := ⟨List.Pairwise.nil, List.Perm.nil, fun _ h => by cases h⟩
theorem InvC.names {m : CM} {xs : List RCnt} (I : InvC m xs) : sortK m = xs.map (·.1) := by
  rw [sortK, mergeSort_of_perm I.keys]
  refine List.mergeSort_of_pairwise (List.pairwise_map.2 (I.sorted.imp fun {a b} h => ?_))
  exact decide_eq_true (List.le_of_lt h)
theorem InvC.cnts {m : CM} {xs : List RCnt} (I : InvC m xs) : cnts m = xs := by
  rw [Go.Proofs.YtfcfgbejpcmmkaaDoor.cnts, I.names, List.map_map]
  refine (List.map_congr_left fun x hx => ?_).trans (List.map_id xs)
  show (x.1, mAt m x.1, ()) = x
  rw [mAt, I.vals x hx]
  rfl
theorem find_key {α : Type} {k : Bs} : ∀ {m : List (Bs × α)} {i : Nat}, kvFind k m i = none ↔ ¬ k ∈ m.map (·.1)
  | [], i => by simp [kvFind]
  | p :: r, i => by
    unfold kvFind
    by_cases e : k = p.1
    · rw [if_pos e]; simp [e]
    · rw [if_neg e, find_key, List.map_cons, List.mem_cons, not_or]
      exact ⟨fun h => ⟨e, h⟩, fun h => h.2⟩
theorem put_keys {α : Type} {k : Bs} {v : α} : ∀ {m : List (Bs × α)}, (kvPut k v m).map (·.1) = if k ∈ m.map (·.1) then m.map (·.1) else m.map (·.1) ++ [k]
  | [] => by simp [kvPut]
  | p :: r => by
    unfold kvPut
    by_cases e : k = p.1
    · rw [if_pos e, if_pos (by rw [e]; exact List.mem_cons_self)]; simp [e]
    · rw [if_neg e, List.map_cons, put_keys]
      by_cases h : k ∈ r.map (·.1)
      · rw [if_pos h]; exact (if_pos (List.mem_cons_of_mem _ h)).symm
      · rw [if_neg h]; exact (if_neg (fun q => (List.mem_cons.1 q).elim e h)).symm
theorem ins_keys {name : Bs} {n : UInt64} : ∀ {xs : List RCnt}, xs.Pairwise (fun x y => x.1 < y.1) → ((insC name n xs).map (·.1)).Perm (if name ∈ xs.map (·.1) then xs.map (·.1) else xs.map (·.1) ++ [name])
  | [], _ => by simp [insC]
  | c :: r, h => by
    obtain ⟨h1, h2⟩ := List.pairwise_cons.1 h
    rw [insC]
    by_cases g : name < c.1
    · have hn : ¬ name ∈ (c :: r).map (·.1) := fun q => by
        rcases List.mem_cons.1 q with q | q
        · have q2 : name = c.1 := q
          rw [q2] at g; exact List.lt_irrefl _ g
        · obtain ⟨x, hx, e⟩ := List.mem_map.1 q
          have := List.lt_trans g (h1 x hx)
          rw [e] at this
          exact List.lt_irrefl _ this
      rw [if_pos g, if_neg hn]
      exact (List.perm_append_singleton name _).symm
    · rw [if_neg g]
      by_cases e : c.1 = name
      · rw [if_pos e, if_pos (by rw [← e]; exact List.mem_cons_self), List.map_cons, List.map_cons, e]
      · rw [if_neg e, List.map_cons, List.map_cons]
        have ih := ins_keys (name := name) (n := n) h2
        by_cases hm : name ∈ r.map (·.1)
        · rw [if_pos (List.mem_cons_of_mem _ hm)]; rw [if_pos hm] at ih; exact ih.cons _
        · rw [if_neg (fun q => (List.mem_cons.1 q).elim (fun q => e q.symm) hm)]; rw [if_neg hm] at ih; exact ih.cons _
theorem ins_val {name : Bs} {n : UInt64} {y : RCnt} : ∀ {xs : List RCnt}, xs.Pairwise (fun x y => x.1 < y.1) → y ∈ insC name n xs → (y.1 ≠ name ∧ y ∈ xs) ∨ (y.1 = name ∧ (∃ x ∈ xs, x.1 = name ∧ y.2.1 = satA x.2.1 n)) ∨ (y.1 = name ∧ ¬ name ∈ xs.map (·.1) ∧ y.2.1 = n)
  | [], _, h => by rw [insC, List.mem_singleton] at h; subst h; exact .inr (.inr ⟨rfl, by simp, rfl⟩)
  | c :: r, hs, h => by
    obtain ⟨h1, h2⟩ := List.pairwise_cons.1 hs
    rw [insC] at h
    by_cases g : name < c.1
    · have hall : ∀ x ∈ c :: r, name < x.1 := fun x hx => (List.mem_cons.1 hx).elim (fun e => by rw [e]; exact g) (fun hx => List.lt_trans g (h1 x hx))
      rw [if_pos g] at h
      rcases List.mem_cons.1 h with rfl | h
      · refine .inr (.inr ⟨rfl, fun q => ?_, rfl⟩)
        obtain ⟨x, hx, e⟩ := List.mem_map.1 q
        have := hall x hx
        rw [e] at this
        exact List.lt_irrefl _ this
      · exact .inl ⟨fun e => by have := hall y h; rw [e] at this; exact List.lt_irrefl _ this, h⟩
    · rw [if_neg g] at h
      by_cases e : c.1 = name
      · rw [if_pos e] at h
        rcases List.mem_cons.1 h with rfl | h
        · exact .inr (.inl ⟨rfl, c, List.mem_cons_self, e, rfl⟩)
        · exact .inl ⟨fun q => by have := h1 y h; rw [q, e] at this; exact List.lt_irrefl _ this, List.mem_cons_of_mem _ h⟩
      · rw [if_neg e] at h
        rcases List.mem_cons.1 h with rfl | h
        · exact .inl ⟨e, List.mem_cons_self⟩
        · rcases ins_val h2 h with ⟨q, hy⟩ | ⟨q, x, hx, hx2⟩ | ⟨q, hn, hv⟩
          · exact .inl ⟨q, List.mem_cons_of_mem _ hy⟩
          · exact .inr (.inl ⟨q, x, List.mem_cons_of_mem _ hx, hx2⟩)
          · exact .inr (.inr ⟨q, fun z => (List.mem_cons.1 z).elim (fun z => e z.symm) hn, hv⟩)
theorem sat_0 (n : UInt64) : satA 0 n = n := by
  rw [satA, UInt64.zero_add, if_pos (UInt64.le_refl n)]
theorem InvC.put {m : CM} {xs : List RCnt} (I : InvC m xs) (name : Bs) (n : UInt64) : InvC (putC m name n) (cntR name n false xs) := by
  rw [cnt_ins I.sorted, putC]
  refine ⟨ins_sorted I.sorted, ?_, fun y hy => ?_⟩
  · rw [put_keys]
    refine List.Perm.trans ?_ (ins_keys I.sorted).symm
    by_cases h : name ∈ m.map (·.1)
    · rw [if_pos h, if_pos (I.keys.mem_iff.1 h)]; exact I.keys
    · rw [if_neg h, if_neg (fun q => h (I.keys.mem_iff.2 q))]; exact I.keys.append_right _
  · rcases ins_val I.sorted hy with ⟨q, hx⟩ | ⟨q, x, hx, e, hv⟩ | ⟨q, hn, hv⟩
    · rw [kvAt_other q]; exact I.vals y hx
    · have h1 := I.vals x hx
      rw [e] at h1
      rw [q, kvAt_self, hv, mAt, h1]; rfl
    · have h1 : kvAt m name = none := by
        rw [kvAt, (find_key (i := 0)).2 (fun z => hn (I.keys.mem_iff.1 z))]; rfl
      rw [q, kvAt_self, hv, mAt, h1]
      exact congrArg some (sat_0 n)
theorem InvC.mlen {m : CM} {xs : List RCnt} (I : InvC m xs) : m.length = xs.length := by simpa using I.keys.length_eq
theorem InvC.len {m : CM} {xs : List RCnt} (I : InvC m xs) (name : Bs) (n : UInt64) : (cntR name n false xs).length ≤ xs.length + 1 := by
  have h1 := (I.put name n).mlen
  rw [← h1, ← I.mlen, putC]
  exact kvPut_len _ _ _
/-- names are short -/
def smallC (m : CM) : Prop := ∀ p ∈ m, p.1.length ≤ 32
theorem small_put {m : CM} {name : Bs} {n : UInt64} (h : smallC m) (hn : name.length ≤ 32) : smallC (putC m name n) := fun p hp => by
  have h1 : p.1 ∈ (putC m name n).map (·.1) := List.mem_map.2 ⟨p, hp, rfl⟩
  rw [putC, put_keys] at h1
  split at h1
  · obtain ⟨q, hq, e⟩ := List.mem_map.1 h1
    rw [← e]; exact h q hq
  · rcases List.mem_append.1 h1 with h1 | h1
    · obtain ⟨q, hq, e⟩ := List.mem_map.1 h1
      rw [← e]; exact h q hq
    · rw [List.mem_singleton.1 h1]; exact hn

end Go.Proofs.YtfcfgbejpcmmkaaDoor
