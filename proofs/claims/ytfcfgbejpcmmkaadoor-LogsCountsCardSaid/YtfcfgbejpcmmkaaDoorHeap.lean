/- Memory that is owned, entry by entry: over any program. -/
import Derived.Test.YtfcfgbejpcmmkaaDoorLib
import Derived.MapKept
namespace Go.Dbr
open Go Go.RowKit

/-- an entry of what is owned: a block whose cells are all told; a slice of which the elements are told, and which alone looks at its block -/
inductive Ent where
  | box (b : Nat) (cs : List Value) (T : TypeId)
  | vec (a : Option Addr) (cap sz : Nat) (xs : List Value) (T : TypeId)
  | map (b : Nat) (kv : List (Value × Value))
  | grp (D : List (Option Addr × Nat × Nat × List Value × TypeId))

/-- what lies within others: slices of which the elements are told, and which are read alone -/
abbrev Inn := Option Addr × Nat × Nat × List Value × TypeId
def Inn.ent (d : Inn) : Ent := .vec d.1 d.2.1 d.2.2.1 d.2.2.2.1 d.2.2.2.2

def Ent.blk : Ent → Option Nat
  | .box b _ _ => some b
  | .vec a _ _ _ _ => a.map (·.block)
  | .map b _ => some b
  | .grp _ => none
/-- the block is the entry's -/
def Ent.own (e : Ent) (c : Nat) : Prop :=
  match e with
  | .grp D => ∃ d : Inn, d ∈ D ∧ d.ent.blk = some c
  | .box b _ _ => some b = some c
  | .vec a _ _ _ _ => a.map (·.block) = some c
  | .map b _ => some b = some c

/-- the mark of bytes that a string shares stands behind the cells, if at all -/
def FzOk (n : Nat) (fz : Nat × Nat) : Prop := fz = (0, 0) ∨ n ≤ fz.1
theorem frozen_fz {w : World} {g j : Nat} {cur : Array Value} {t : TypeId} {fz : Nat × Nat} (hg : w.heap[g]? = some (.cells cur t fz)) (hf : FzOk cur.size fz) (hj : j < cur.size) : w.frozen? ⟨g, j, none⟩ = false := by
  obtain ⟨lo, hi⟩ := fz
  rcases hf with h | h
  · simp only [Prod.mk.injEq] at h
    obtain ⟨rfl, rfl⟩ := h
    exact frozen_of_row w g j cur t hg
  · simp only at h
    simp [World.frozen?, hg]
    omega
theorem heap_setCell_fz {w : World} {g i : Nat} {cur : Array Value} {t : TypeId} {fz : Nat × Nat} (v : Value) (hg : w.heap[g]? = some (.cells cur t fz)) : (w.setCell ⟨g, i, none⟩ v).heap[g]? = some (.cells (cur.setIfInBounds i v) t fz) := by
  rw [setCell_eq_setRow w g i cur t fz v hg]
  exact setRow_heap w g cur _ t fz hg
theorem run_storeCells_fz {P : Program} (g o : Nat) (t : TypeId) (fz : Nat × Nat) : ∀ (vs : List Value) (i : Nat) (cur : Array Value) (w : World), w.heap[g]? = some (.cells cur t fz) → FzOk cur.size fz → o + i + vs.length ≤ cur.size → (∀ v ∈ vs, v.oneCell' = true) →
    (storeCells ⟨g, o, none⟩ vs i).run P w = .ok () (w.setRow g (cur.toList.take (o + i) ++ vs ++ cur.toList.drop (o + i + vs.length)).toArray)
  | [], i, cur, w, hg, _, _, _ => by
    simp only [storeCells, List.append_nil, List.length_nil, Nat.add_zero, List.take_append_drop, Array.toArray_toList]
    rw [setRow_self w g cur t fz hg]
    rfl
  | v :: r, i, cur, w, hg, hf, hl, h1 => by
    have hi : o + i < cur.size := by simp only [List.length_cons] at hl; omega
    have hadd : (⟨g, o, none⟩ : Addr).add i = ⟨g, o + i, none⟩ := by unfold Addr.add; split <;> simp_all
    have hcell : w.cell? ⟨g, o + i, none⟩ = some cur[o + i] := by rw [cell_of_row w g _ cur t fz hg]; simp [hi]
    have hst : (store ((⟨g, o, none⟩ : Addr).add i) v).run P w = .ok () (w.setRow g (cur.setIfInBounds (o + i) v)) := by
      rw [hadd, run_store P w _ v _ (h1 v (by simp)), hcell]
      simp [frozen_fz hg hf hi, setCell_eq_setRow w g (o + i) cur t fz v hg]
    have ih := run_storeCells_fz (P := P) g o t fz r (i + 1) (cur.setIfInBounds (o + i) v) (w.setRow g (cur.setIfInBounds (o + i) v)) (setRow_heap w g cur _ t fz hg) (by simpa using hf) (by simp only [List.length_cons] at hl; simp; omega) (fun x hx => h1 x (by simp [hx]))
    simp only [storeCells, Sem.run_bind, hst, Result.andThen_ok, ih, setRow_setRow]
    have e := list_seg_step cur.toList (o + i) v r (by simp only [List.length_cons] at hl; simp; omega)
    simp only [Array.toList_setIfInBounds, List.length_cons, ← Nat.add_assoc] at e ⊢
    rw [e]

def Ent.holds0 (w : World) : Ent → Prop
  | .grp _ => True
  | .box b cs T => w.heap[b]? = some (.cells cs.toArray T (0, 0))
  | .map b kv => ∃ es clock, w.heap[b]? = some (.map es clock) ∧ es.toList.map (fun e => (e.key, e.val)) = kv ∧ MapKept.Stamped es clock
  | .vec none cap _ xs _ => cap = 0 ∧ xs = []
  | .vec (some ad) cap sz xs T => ad.spot = none ∧ cap ≤ maxLen ∧ xs.length ≤ cap * sz ∧
      ∃ (cur : Array Value) (fz : Nat × Nat), w.heap[ad.block]? = some (.cells cur T fz) ∧ FzOk cur.size fz ∧ ad.off + cap * sz ≤ cur.size ∧ ∀ j, j < xs.length → cur[ad.off + j]? = xs[j]?

def Ent.holds (w : World) (e : Ent) : Prop :=
  match e with
  | .grp D => ∀ d : Inn, d ∈ D → d.ent.holds0 w
  | .box b cs T => Ent.holds0 w (.box b cs T)
  | .vec a cap sz xs T => Ent.holds0 w (.vec a cap sz xs T)
  | .map b kv => Ent.holds0 w (.map b kv)

theorem Ent.holds0_congr {w w' : World} {e : Ent} (h : e.holds0 w) (hb : ∀ b, e.blk = some b → w'.heap[b]? = w.heap[b]?) : e.holds0 w' := by
  cases e with
  | box b cs T => simp only [Ent.holds0] at h ⊢; rw [hb b rfl]; exact h
  | map b kv => simp only [Ent.holds0] at h ⊢; rw [hb b rfl]; exact h
  | grp D => trivial
  | vec a cap sz xs T =>
    cases a with
    | none => exact h
    | some ad =>
      obtain ⟨h1, h2, h3, cur, fz, h4, h5⟩ := h
      exact ⟨h1, h2, h3, cur, fz, by rw [hb ad.block rfl]; exact h4, h5⟩
theorem Ent.holds_congr {w w' : World} {e : Ent} (h : e.holds w) (hb : ∀ b, e.own b → w'.heap[b]? = w.heap[b]?) : e.holds w' := by
  cases e with
  | box b cs T => exact Ent.holds0_congr (e := .box b cs T) h hb
  | map b kv => exact Ent.holds0_congr (e := .map b kv) h hb
  | vec a cap sz xs T => exact Ent.holds0_congr (e := .vec a cap sz xs T) h hb
  | grp D => exact fun d hd => Ent.holds0_congr (h d hd) fun b hb' => hb b ⟨d, hd, hb'⟩

theorem lt_of_block {w : World} {b : Nat} {o : Obj} (h : w.heap[b]? = some o) : b < w.heap.size := (Array.getElem?_eq_some_iff.1 h).1

theorem Ent.blk_lt0 {w : World} {e : Ent} (h : e.holds0 w) {b : Nat} (hb : e.blk = some b) : b < w.heap.size := by
  cases e with
  | box c cs T => simp only [Ent.blk, Option.some.injEq] at hb; subst hb; exact lt_of_block h
  | map c kv => simp only [Ent.blk, Option.some.injEq] at hb; subst hb; obtain ⟨es, clock, h1, _⟩ := h; exact lt_of_block h1
  | grp D => cases hb
  | vec a cap sz xs T =>
    cases a with
    | none => cases hb
    | some ad =>
      obtain ⟨_, _, _, cur, fz, h4, _⟩ := h
      simp only [Ent.blk, Option.map_some, Option.some.injEq] at hb
      subst hb
      exact lt_of_block h4
theorem Ent.blk_lt {w : World} {e : Ent} (h : e.holds w) {b : Nat} (hb : e.own b) : b < w.heap.size := by
  cases e with
  | box c cs T => exact Ent.blk_lt0 (e := .box c cs T) h hb
  | map c kv => exact Ent.blk_lt0 (e := .map c kv) h hb
  | vec a cap sz xs T => exact Ent.blk_lt0 (e := .vec a cap sz xs T) h hb
  | grp D => obtain ⟨d, hd, hb⟩ := hb; exact Ent.blk_lt0 (h d hd) hb

structure Heap (w : World) (L : List Ent) : Prop where
  sep : ∀ (i j : Nat) (e f : Ent) (b : Nat), L[i]? = some e → L[j]? = some f → e.own b → f.own b → i = j
  holds : ∀ (i : Nat) (e : Ent), L[i]? = some e → e.holds w

def Owns (L : List Ent) (b : Nat) : Prop := ∃ (i : Nat) (e : Ent), L[i]? = some e ∧ e.own b

/-- what stands outside S is as it was; nothing goes -/
structure Chg (S : Nat → Prop) (w w' : World) : Prop where
  os : w'.os = w.os
  tape : w'.tape = w.tape
  output : w'.output = w.output
  size : w.heap.size ≤ w'.heap.size
  block : ∀ k, k < w.heap.size → ¬ S k → w'.heap[k]? = w.heap[k]?

/-- out of what was owned came what is owned -/
structure Ev (w : World) (L : List Ent) (w' : World) (L' : List Ent) : Prop where
  heap : Heap w' L'
  chg : Chg (Owns L) w w'
  new : ∀ b, Owns L' b → Owns L b ∨ w.heap.size ≤ b

theorem Heap.lt {w : World} {L : List Ent} (h : Heap w L) {b : Nat} (hb : Owns L b) : b < w.heap.size := by
  obtain ⟨i, e, hi, he⟩ := hb
  exact Ent.blk_lt (h.holds i e hi) he

theorem Chg.refl (S : Nat → Prop) (w : World) : Chg S w w := ⟨rfl, rfl, rfl, Nat.le_refl _, fun _ _ _ => rfl⟩

theorem Ev.refl {w : World} {L : List Ent} (h : Heap w L) : Ev w L w L := ⟨h, Chg.refl _ _, fun _ h => .inl h⟩

theorem Ev.trans {w w1 w2 : World} {L L1 L2 : List Ent} (h : Ev w L w1 L1) (k : Ev w1 L1 w2 L2) : Ev w L w2 L2 := by
  refine ⟨k.heap, ⟨k.chg.os.trans h.chg.os, k.chg.tape.trans h.chg.tape, k.chg.output.trans h.chg.output, Nat.le_trans h.chg.size k.chg.size, fun b hb hn => ?_⟩, fun b hb => ?_⟩
  · have h1 : ¬ Owns L1 b := fun ho => (h.new b ho).elim hn (fun hge => by omega)
    rw [k.chg.block b (Nat.lt_of_lt_of_le hb h.chg.size) h1, h.chg.block b hb hn]
  · rcases k.new b hb with ho | hge
    · exact h.new b ho
    · exact .inr (Nat.le_trans h.chg.size hge)

theorem Owns.nil {b : Nat} : ¬ Owns [] b := fun ⟨i, e, hi, _⟩ => by simp at hi

theorem Heap.nil (w : World) : Heap w [] := ⟨fun i j e f b hi => by simp at hi, fun i e hi => by simp at hi⟩

/-- some of the entries, in another order -/
theorem Heap.pick {w : World} {L : List Ent} (h : Heap w L) (is : List Nat) {M : List Ent} (hm : M.map some = is.map (fun i => L[i]?)) (nd : is.Nodup) : Heap w M := by
  have key : ∀ (j : Nat) (e : Ent), M[j]? = some e → ∃ i : Nat, is[j]? = some i ∧ L[i]? = some e := by
    intro j e hj
    have h1 : (M.map some)[j]? = some (some e) := by simp [hj]
    rw [hm, List.getElem?_map] at h1
    cases hi : is[j]? with
    | none => simp [hi] at h1
    | some i => exact ⟨i, rfl, by simpa [hi] using h1⟩
  refine ⟨fun i j e f b hi hj he hf => ?_, fun i e hi => ?_⟩
  · obtain ⟨p, hp, hp'⟩ := key i e hi
    obtain ⟨q, hq, hq'⟩ := key j f hj
    have hpq := h.sep p q e f b hp' hq' he hf
    subst hpq
    obtain ⟨h1, h1'⟩ := List.getElem?_eq_some_iff.1 hp
    obtain ⟨h2, h2'⟩ := List.getElem?_eq_some_iff.1 hq
    exact (List.getElem_inj nd).1 (h1'.trans h2'.symm)
  · obtain ⟨p, _, hp'⟩ := key i e hi
    exact h.holds p e hp'

theorem owns_pick {L : List Ent} {is : List Nat} {M : List Ent} (hm : M.map some = is.map (fun i => L[i]?)) {b : Nat} (h : Owns M b) : Owns L b := by
  obtain ⟨j, e, hj, he⟩ := h
  have h1 : (M.map some)[j]? = some (some e) := by simp [hj]
  rw [hm, List.getElem?_map] at h1
  cases hi : is[j]? with
  | none => simp [hi] at h1
  | some i => exact ⟨i, e, by simpa [hi] using h1, he⟩

theorem Ev.pick {w w' : World} {L L' : List Ent} (h : Ev w L w' L') (is : List Nat) {M : List Ent} (hm : M.map some = is.map (fun i => L'[i]?)) (nd : is.Nodup) : Ev w L w' M :=
  ⟨h.heap.pick is hm nd, h.chg, fun b hb => h.new b (owns_pick hm hb)⟩

theorem owns_append {L R : List Ent} {b : Nat} : Owns (L ++ R) b ↔ Owns L b ∨ Owns R b := by
  constructor
  · rintro ⟨i, e, hi, he⟩
    by_cases hl : i < L.length
    · rw [List.getElem?_append_left hl] at hi; exact .inl ⟨i, e, hi, he⟩
    · rw [List.getElem?_append_right (by omega)] at hi; exact .inr ⟨_, e, hi, he⟩
  · rintro (⟨i, e, hi, he⟩ | ⟨i, e, hi, he⟩)
    · exact ⟨i, e, by rw [List.getElem?_append_left (List.getElem?_eq_some_iff.1 hi).1]; exact hi, he⟩
    · exact ⟨L.length + i, e, by rw [List.getElem?_append_right (by omega)]; simpa using hi, he⟩

theorem Heap.append {w : World} {L R : List Ent} (hl : Heap w L) (hr : Heap w R) (hd : ∀ b, Owns L b → Owns R b → False) : Heap w (L ++ R) := by
  refine ⟨fun i j e f b hi hj he hf => ?_, fun i e hi => ?_⟩
  · by_cases h1 : i < L.length <;> by_cases h2 : j < L.length
    · rw [List.getElem?_append_left h1] at hi; rw [List.getElem?_append_left h2] at hj; exact hl.sep i j e f b hi hj he hf
    · rw [List.getElem?_append_left h1] at hi; rw [List.getElem?_append_right (by omega)] at hj; exact (hd b ⟨_, _, hi, he⟩ ⟨_, _, hj, hf⟩).elim
    · rw [List.getElem?_append_right (by omega)] at hi; rw [List.getElem?_append_left h2] at hj; exact (hd b ⟨_, _, hj, hf⟩ ⟨_, _, hi, he⟩).elim
    · rw [List.getElem?_append_right (by omega)] at hi hj; have := hr.sep _ _ e f b hi hj he hf; omega
  · by_cases h1 : i < L.length
    · rw [List.getElem?_append_left h1] at hi; exact hl.holds i e hi
    · rw [List.getElem?_append_right (by omega)] at hi; exact hr.holds _ e hi

theorem Heap.left {w : World} {L R : List Ent} (h : Heap w (L ++ R)) : Heap w L :=
  ⟨fun i j e f b hi hj he hf => h.sep i j e f b (by rw [List.getElem?_append_left (List.getElem?_eq_some_iff.1 hi).1]; exact hi) (by rw [List.getElem?_append_left (List.getElem?_eq_some_iff.1 hj).1]; exact hj) he hf,
   fun i e hi => h.holds i e (by rw [List.getElem?_append_left (List.getElem?_eq_some_iff.1 hi).1]; exact hi)⟩

theorem Heap.right {w : World} {L R : List Ent} (h : Heap w (L ++ R)) : Heap w R := by
  have up : ∀ (i : Nat) (e : Ent), R[i]? = some e → (L ++ R)[L.length + i]? = some e := fun i e hi => by rw [List.getElem?_append_right (by omega)]; simpa using hi
  refine ⟨fun i j e f b hi hj he hf => ?_, fun i e hi => h.holds _ e (up i e hi)⟩
  have := h.sep _ _ e f b (up i e hi) (up j f hj) he hf
  omega

theorem Heap.apart {w : World} {L R : List Ent} (h : Heap w (L ++ R)) {b : Nat} (hl : Owns L b) (hr : Owns R b) : False := by
  obtain ⟨i, e, hi, he⟩ := hl
  obtain ⟨j, f, hj, hf⟩ := hr
  have hlt := (List.getElem?_eq_some_iff.1 hi).1
  have := h.sep i (L.length + j) e f b (by rw [List.getElem?_append_left hlt]; exact hi) (by rw [List.getElem?_append_right (by omega)]; simpa using hj) he hf
  omega

/-- what a callee does to its own entries leaves the others alone -/
theorem Ev.frame {w w' : World} {L L' R : List Ent} (h : Heap w (L ++ R)) (e : Ev w L w' L') : Ev w (L ++ R) w' (L' ++ R) := by
  have hr := h.right
  have hR : Heap w' R := ⟨hr.sep, fun i f hi => Ent.holds_congr (hr.holds i f hi) fun b hb =>
    e.chg.block b (Ent.blk_lt (hr.holds i f hi) hb) fun ho => h.apart ho ⟨i, f, hi, hb⟩⟩
  refine ⟨e.heap.append hR fun b hb hb' => ?_, ⟨e.chg.os, e.chg.tape, e.chg.output, e.chg.size, fun k hk hn => e.chg.block k hk fun ho => hn (owns_append.2 (.inl ho))⟩, fun b hb => ?_⟩
  · rcases e.new b hb with ho | hge
    · exact h.apart ho hb'
    · have := hr.lt hb'; omega
  · rcases owns_append.1 hb with ho | ho
    · exact (e.new b ho).imp (fun h => owns_append.2 (.inl h)) id
    · exact .inl (owns_append.2 (.inr ho))

/-- a call within: entries 'is' go to the callee, 'js' stay -/
theorem Ev.call {w w' : World} {L M R M' : List Ent} (h : Heap w L) (is : List Nat) (hm : (M ++ R).map some = is.map (fun i => L[i]?)) (nd : is.Nodup) (e : Ev w M w' M') : Ev w L w' (M' ++ R) := by
  have h1 : Heap w (M ++ R) := h.pick is hm nd
  have h2 := Ev.frame h1 e
  exact ⟨h2.heap, ⟨h2.chg.os, h2.chg.tape, h2.chg.output, h2.chg.size, fun k hk hn => h2.chg.block k hk fun ho => hn (owns_pick hm ho)⟩, fun b hb => (h2.new b hb).imp (owns_pick hm) id⟩

/-- one entry is changed -/
theorem Ev.change {w w' : World} {L : List Ent} (h : Heap w L) {k : Nat} {e e' : Ent} (hk : L[k]? = some e) (hc : Chg (fun b => e.own b) w w') (he : e'.holds w')
    (hb : ∀ b, e'.own b → e.own b ∨ w.heap.size ≤ b) : Ev w L w' (L.set k e') := by
  have hkl := (List.getElem?_eq_some_iff.1 hk).1
  have at_ : ∀ (i : Nat) (f : Ent), (L.set k e')[i]? = some f → (i = k ∧ f = e') ∨ (i ≠ k ∧ L[i]? = some f) := by
    intro i f hi
    by_cases hik : i = k
    · subst hik; rw [List.getElem?_set_self hkl] at hi; exact .inl ⟨rfl, by simpa using hi.symm⟩
    · rw [List.getElem?_set_ne (Ne.symm hik)] at hi; exact .inr ⟨hik, hi⟩
  have other : ∀ (i : Nat) (f : Ent) (b : Nat), i ≠ k → L[i]? = some f → f.own b → e'.own b → False := by
    intro i f b hik hi hf he'
    rcases hb b he' with h1 | h1
    · exact hik (h.sep i k f e b hi hk hf h1)
    · have := Ent.blk_lt (h.holds i f hi) hf; omega
  refine ⟨⟨fun i j f g b hi hj hf hg => ?_, fun i f hi => ?_⟩, ⟨hc.os, hc.tape, hc.output, hc.size, fun b hb' hn => hc.block b hb' fun heb => hn ⟨k, e, hk, heb⟩⟩, fun b ho => ?_⟩
  · rcases at_ i f hi with ⟨rfl, rfl⟩ | ⟨h1, h1'⟩ <;> rcases at_ j g hj with ⟨rfl, rfl⟩ | ⟨h2, h2'⟩
    · rfl
    · exact (other j g b h2 h2' hg hf).elim
    · exact (other i f b h1 h1' hf hg).elim
    · exact h.sep i j f g b h1' h2' hf hg
  · rcases at_ i f hi with ⟨rfl, rfl⟩ | ⟨h1, h1'⟩
    · exact he
    · exact Ent.holds_congr (h.holds i f h1') fun b hb' => hc.block b (Ent.blk_lt (h.holds i f h1') hb') fun heb => h1 (h.sep i k f e b h1' hk hb' heb)
  · obtain ⟨i, f, hi, hf⟩ := ho
    rcases at_ i f hi with ⟨rfl, rfl⟩ | ⟨h1, h1'⟩
    · exact (hb b hf).imp (fun h => ⟨i, e, hk, h⟩) id
    · exact .inl ⟨i, f, h1', hf⟩

/-- one entry more -/
theorem Ev.add {w w' : World} {L : List Ent} (h : Heap w L) {e' : Ent} (hc : Chg (fun _ => False) w w') (he : e'.holds w') (hb : ∀ b, e'.own b → w.heap.size ≤ b) : Ev w L w' (L ++ [e']) := by
  have hL : Heap w' L := ⟨h.sep, fun i f hi => Ent.holds_congr (h.holds i f hi) fun b hb => hc.block b (Ent.blk_lt (h.holds i f hi) hb) id⟩
  have h1 : Heap w' [e'] := by
    have one : ∀ (i : Nat) (f : Ent), [e'][i]? = some f → i = 0 ∧ f = e' := fun i f hi => by
      cases i with
      | zero => exact ⟨rfl, by simpa using hi.symm⟩
      | succ i => simp at hi
    exact ⟨fun i j f g b hi hj _ _ => by rw [(one i f hi).1, (one j g hj).1], fun i f hi => by rw [(one i f hi).2]; exact he⟩
  have hown : ∀ b, Owns [e'] b → e'.own b := fun b ⟨i, f, hi, hf⟩ => by
    cases i with
    | zero => simp at hi; subst hi; exact hf
    | succ i => simp at hi
  refine ⟨hL.append h1 fun b ho ho' => ?_, ⟨hc.os, hc.tape, hc.output, hc.size, fun k hk _ => hc.block k hk id⟩, fun b ho => ?_⟩
  · have := h.lt ho; have := hb b (hown b ho'); omega
  · rcases owns_append.1 ho with ho | ho
    · exact .inl ho
    · exact .inr (hb b (hown b ho))

/-- nothing of the memory is changed -/
theorem Ev.same {w w' : World} {L : List Ent} (h : Heap w L) (hh : w'.heap = w.heap) (ho : w'.os = w.os) (ht : w'.tape = w.tape) (hu : w'.output = w.output) : Ev w L w' L :=
  ⟨⟨h.sep, fun i e hi => Ent.holds_congr (h.holds i e hi) fun b _ => by rw [hh]⟩, ⟨ho, ht, hu, by rw [hh]; exact Nat.le_refl _, fun k _ _ => by rw [hh]⟩, fun b hb => .inl hb⟩
theorem Ev.drew {w : World} {L : List Ent} (h : Heap w L) : Ev w L w.drew L := Ev.same h rfl rfl rfl rfl

theorem chg_alloc (S : Nat → Prop) (w : World) (o : Obj) : Chg S w (w.alloc o) :=
  ⟨rfl, rfl, rfl, by simp, fun k hk _ => Below.heap_alloc w o k hk⟩
theorem chg_setCell {S : Nat → Prop} (w : World) (ad : Addr) (v : Value) (h : S ad.block) : Chg S w (w.setCell ad v) :=
  ⟨rfl, rfl, rfl, by simp, fun k _ hn => heap_setCell_other w ad k v fun e => hn (by rw [e]; exact h)⟩

/-! ### what is read -/

/-- the cells behind an address -/
def Reads (w : World) (a : Option Addr) (xs : List Value) : Prop :=
  match a with
  | none => xs = []
  | some ad => ∀ j u, xs[j]? = some u → w.cell? (ad.add j) = some u

theorem add_off {b o j : Nat} : (⟨b, o, none⟩ : Addr).add j = ⟨b, o + j, none⟩ := by
  unfold Addr.add
  split
  · rename_i h; subst h; rfl
  · rfl

theorem Reads.congr {w w' : World} {a : Option Addr} {xs : List Value} (h : Reads w a xs) (hb : ∀ ad, a = some ad → ad.block < w.heap.size → w'.heap[ad.block]? = w.heap[ad.block]?) : Reads w' a xs := by
  cases a with
  | none => exact h
  | some ad =>
    intro j u hj
    have h1 := h j u hj
    have hbl : (ad.add j).block = ad.block := by unfold Addr.add; split <;> rfl
    have hlt := World.block_lt_of_cell? _ _ h1
    rw [hbl] at hlt
    have h2 := hb ad rfl hlt
    rw [← h1]
    exact World.cell?_of_block (by rw [hbl]; exact h2)

theorem Reads.take {w : World} {a : Option Addr} {xs : List Value} (h : Reads w a xs) (n : Nat) : Reads w a (xs.take n) := by
  cases a with
  | none => simp only [Reads] at h ⊢; subst h; simp
  | some ad => intro j u hj; rw [List.getElem?_take] at hj; split at hj; exact h j u hj; cases hj

/-- memory that is read alone: none of it is owned by L -/
structure Ro (w : World) (L : List Ent) (a : Option Addr) (xs : List Value) : Prop where
  reads : Reads w a xs
  off : ∀ ad, a = some ad → xs ≠ [] → ¬ Owns L ad.block

theorem Ro.ev {w w' : World} {L L' : List Ent} {a : Option Addr} {xs : List Value} (h : Ro w L a xs) (e : Ev w L w' L') : Ro w' L' a xs := by
  by_cases hx : xs = []
  · subst hx
    refine ⟨?_, fun _ _ h => (h rfl).elim⟩
    cases a with
    | none => rfl
    | some ad => intro j u hj; simp at hj
  · refine ⟨h.reads.congr fun ad ha hlt => e.chg.block _ hlt (h.off ad ha hx), fun ad ha _ ho => ?_⟩
    have hlt : ad.block < w.heap.size := by
      subst ha
      obtain ⟨x, r, rfl⟩ := List.exists_cons_of_ne_nil hx
      have h1 := h.reads 0 x rfl
      have hlt := World.block_lt_of_cell? _ _ h1
      have hbl : (ad.add 0).block = ad.block := by unfold Addr.add; split <;> rfl
      rwa [hbl] at hlt
    rcases e.new _ ho with h1 | h1
    · exact h.off ad ha hx h1
    · omega

theorem Ro.of {w : World} {L M : List Ent} {a : Option Addr} {xs : List Value} (h : Ro w L a xs) (hm : ∀ b, Owns M b → Owns L b) : Ro w M a xs :=
  ⟨h.reads, fun ad ha hx ho => h.off ad ha hx (hm _ ho)⟩

theorem Ro.pick {w : World} {L M : List Ent} {a : Option Addr} {xs : List Value} (h : Ro w L a xs) (is : List Nat) (hm : M.map some = is.map (fun i => L[i]?)) : Ro w M a xs :=
  h.of fun _ ho => owns_pick hm ho

theorem Heap.reads {w : World} {L : List Ent} (h : Heap w L) {k : Nat} {a : Option Addr} {cap sz : Nat} {xs : List Value} {T : TypeId} (hk : L[k]? = some (.vec a cap sz xs T)) : Reads w a xs := by
  have hh := h.holds k _ hk
  cases a with
  | none => exact hh.2
  | some ad =>
    obtain ⟨h1, _, _, cur, fz, h4, _, h5, h6⟩ := hh
    obtain ⟨b, o, sp⟩ := ad
    simp only at h1 h4 h6
    subst h1
    intro j u hj
    have hl := (List.getElem?_eq_some_iff.1 hj).1
    rw [add_off, cell_of_row w b _ cur T fz h4, h6 j hl]
    exact hj

/-- an entry that is owned may be handed over to be read, where the callee owns others -/
theorem Heap.ro {w : World} {L M : List Ent} (h : Heap w L) {k : Nat} {a : Option Addr} {cap sz : Nat} {xs : List Value} {T : TypeId} (hk : L[k]? = some (.vec a cap sz xs T))
    (is : List Nat) (hm : M.map some = is.map (fun i => L[i]?)) (hn : is.contains k = false) : Ro w M a xs := by
  refine ⟨h.reads hk, fun ad ha _ ho => ?_⟩
  obtain ⟨j, e, hj, he⟩ := ho
  have h1 : (M.map some)[j]? = some (some e) := by simp [hj]
  rw [hm, List.getElem?_map] at h1
  cases hi : is[j]? with
  | none => simp [hi] at h1
  | some i =>
    have h2 : L[i]? = some e := by simpa [hi] using h1
    have := h.sep k i _ e ad.block hk h2 (by simp [Ent.own, ha]) he
    subst this
    have hmem : k ∈ is := List.mem_of_getElem? hi
    have := List.contains_iff_mem.2 hmem
    rw [hn] at this
    cases this

/-! ### boxes -/
section
variable {P : Program} {w : World} {L : List Ent}

theorem Heap.cell {k b off : Nat} {cs : List Value} {T : TypeId} {v : Value} (h : Heap w L) (hk : L[k]? = some (.box b cs T)) (hv : cs[off]? = some v) : w.cell? ⟨b, off, none⟩ = some v := by
  have hh : w.heap[b]? = some (.cells cs.toArray T (0, 0)) := h.holds k _ hk
  rw [cell_of_row w b off _ T (0, 0) hh]
  simpa using hv

/-- a load of one cell -/
theorem run_load1 {t : TypeId} {ad : Addr} {v : Value} (ht : (fun w => (isAgg t).run P w) = fun w => .ok false w) (hc : w.cell? ad = some v) :
    (Instr.loadAt t (.pointer (some ad))).run P w = .ok v w := by
  have h1 : (isAgg t).run P w = .ok false w := congrFun ht w
  simp [Instr.loadAt, Instr.sureAddr, loadVar, h1, hc]

theorem Heap.setBox {k b off : Nat} {cs : List Value} {T : TypeId} (v : Value) (h : Heap w L) (hk : L[k]? = some (.box b cs T)) : Ev w L (w.setCell ⟨b, off, none⟩ v) (L.set k (.box b (cs.set off v) T)) := by
  have hh : w.heap[b]? = some (.cells cs.toArray T (0, 0)) := h.holds k _ hk
  refine Ev.change h hk (chg_setCell w ⟨b, off, none⟩ v rfl) ?_ (fun c hc => .inl hc)
  show (w.setCell ⟨b, off, none⟩ v).heap[b]? = some (.cells (cs.set off v).toArray T (0, 0))
  rw [heap_setCell_same w b off cs.toArray T v hh]
  simp

/-- a store of one cell -/
theorem run_store1 {k b off : Nat} {cs : List Value} {T t : TypeId} {v old : Value} (hs : (fun w => (sizeOf t).run P w) = fun w => .ok 1 w) (h : Heap w L) (hk : L[k]? = some (.box b cs T))
    (ho : cs[off]? = some old) (hv : v.oneCell' = true) : (Instr.storeAt t (.pointer (some ⟨b, off, none⟩)) v).run P w = .ok () (w.setCell ⟨b, off, none⟩ v) := by
  have hh : w.heap[b]? = some (.cells cs.toArray T (0, 0)) := h.holds k _ hk
  have h1 : (sizeOf t).run P w = .ok 1 w := congrFun hs w
  have hc : v.cells = #[v] := by cases v <;> first | rfl | (simp [Value.oneCell'] at hv)
  have hcell := h.cell hk ho
  have hfr := frozen_of_row w b off cs.toArray T hh
  simp [Instr.storeAt, Instr.sureAddr, storeVar, hc, h1, storeCells, add_off, run_store P w _ v _ hv, hcell, hfr]

theorem Heap.newBox {T : TypeId} (cs : List Value) (h : Heap w L) : Ev w L (w.alloc (.cells cs.toArray T)) (L ++ [.box w.heap.size cs T]) :=
  Ev.add h (chg_alloc _ _ _) (heap_alloc_new w _) (fun b hb => by simp only [Ent.own, Option.some.injEq] at hb; omega)

/-- a row of n elements, all told -/
theorem Heap.newVec {T : TypeId} {n sz : Nat} (xs : List Value) (hl : xs.length = n * sz) (hm : n ≤ maxLen) (h : Heap w L) : Ev w L (w.alloc (.cells xs.toArray T)) (L ++ [.vec (some ⟨w.heap.size, 0, none⟩) n sz xs T]) := by
  refine Ev.add h (chg_alloc _ _ _) ⟨rfl, hm, by omega, xs.toArray, (0, 0), heap_alloc_new w _, .inl rfl, by simp [hl], fun j hj => by simp⟩ (fun b hb => by simp only [Ent.own, Option.map_some, Option.some.injEq] at hb; omega)
end

/-! ### append -/
section
variable {P : Program} {w : World} {L : List Ent}

theorem Reads.src {size : Nat} {tx e' : TypeId} (hk : P.underlying tx = some (.slice e')) {a : Option Addr} {n c : Nat} {xs : List Value} (h : Reads w a xs) (hl : xs.length = n * size) (hn : a = none → n = 0) (h1 : ∀ u ∈ xs, u.oneCell' = true) :
    Src P size tx (.slice a n c) n xs w := by
  cases a with
  | none =>
    have := hn rfl
    subst this
    simp only [Reads] at h
    subst h
    exact ⟨.inl ⟨e', hk⟩, fun _ => rfl, run_firstCells_none w size 0 0 c, run_firstCells_none w.drew size 0 0 c, by simp, fun _ h => by cases h⟩
  | some ad => exact Src.ofSlice w hk ad n c xs hl h h1

theorem Heap.append1 {k : Nat} {a : Option Addr} {cap sz n m : Nat} {xs ys : List Value} {T t tx ty : TypeId} {x : Value} {i : TypeInfo} {z : Value} {bytes : Nat}
    (h : Heap w L) (hk : L[k]? = some (.vec a cap sz xs T)) (hn : xs.length = n * sz) (hs : Src P sz tx x m ys w)
    (ht : P.underlying t = some (.slice T)) (hi : P.info? T = some i) (hz : i.zero = some z) (hsz : i.size = sz) (hby : i.bytes = bytes) (hzs : z.cells.size = sz) (hpos : 0 < sz)
    (h63 : n + m ≤ maxLen) (hb : ((n + m) + (n + m) / 4 + 192) * bytes ≤ 281474976710656) :
    ∃ a' cap' w', (Builtin.append_ #[t, tx] ty #[.slice a n cap, x]).run P w = .ok (.slice a' (n + m) cap') w' ∧ Ev w L w' (L.set k (.vec a' cap' sz (xs ++ ys) T)) ∧ (a' = none → n + m = 0) ∧ n + m ≤ cap' := by
  subst hsz
  subst hby
  have hyl := hs.newsLen
  have hsmall : n + m ≤ 9223372036854775807 := by simp only [maxLen] at h63; omega
  have hh := h.holds k _ hk
  have hlen : (xs ++ ys).length = (n + m) * i.size := by rw [List.length_append, hn, hyl, Nat.add_mul]
  have grow : cap < n + m → (Builtin.firstCells i.size n (.slice a n cap)).run P w.drew = .ok xs.toArray w.drew →
      ∃ a' cap' w', (Builtin.append_ #[t, tx] ty #[.slice a n cap, x]).run P w = .ok (.slice a' (n + m) cap') w' ∧ Ev w L w' (L.set k (.vec a' cap' i.size (xs ++ ys) T)) ∧ (a' = none → n + m = 0) ∧ n + m ≤ cap' := by
    intro hg hold
    have hrun := run_append_grow_src (P := P) w t tx ty T i z ht hi hz a n cap xs hold x m ys hs hg (by omega) (growslice_fits_wide hg hb)
    have hge := grownCap_ge w (n + m) cap T
    have hcm := grownCap_le_maxLen w (n + m) cap T h63
    have hcap : (xs ++ ys).length ≤ grownCap w (n + m) cap T * i.size := by rw [hlen]; exact Nat.mul_le_mul_right _ hge
    refine ⟨_, _, _, hrun, ?_, fun e => (by cases e), hge⟩
    refine Ev.change h hk ⟨rfl, rfl, rfl, by simp, fun b hb _ => Below.heap_alloc w.drew _ b hb⟩ ⟨rfl, hcm, hcap, _, (0, 0), heap_alloc_new w.drew _, .inl rfl, ?_, fun j hj => ?_⟩ (fun b hb => .inr ?_)
    · simp only [Nat.zero_add]
      rw [Array.size_append, List.size_toArray, hlen, size_zeroCells, hzs, ← Nat.add_mul]
      rw [show n + m + (grownCap w (n + m) cap T - (n + m)) = grownCap w (n + m) cap T by omega]
      exact Nat.le_refl _
    · rw [Nat.zero_add, Array.getElem?_append_left (by simpa using hj)]
      simp
    · simp only [Ent.own, Option.map_some, Option.some.injEq] at hb
      have : w.drew.heap.size = w.heap.size := rfl
      omega
  cases a with
  | none =>
    obtain ⟨rfl, rfl⟩ := hh
    have hn0 : n = 0 := by
      rcases Nat.eq_zero_or_pos n with h0 | h0
      · exact h0
      · have := Nat.mul_pos h0 hpos; simp at hn; omega
    subst hn0
    by_cases hm : m = 0
    · subst hm
      have hy : ys = [] := List.eq_nil_of_length_eq_zero (by simpa using hyl)
      subst hy
      refine ⟨none, 0, w, ?_, ?_, fun _ => rfl, Nat.le_refl _⟩
      · rcases hs.kind with ⟨e', hk'⟩ | hk' <;> simp [Builtin.append_, run_underlying ht, run_underlying hk', sizeOf, typeInfo, hi, hs.len, hs.cells]
      · exact Ev.change h hk (Chg.refl _ _) ⟨rfl, rfl⟩ (fun b hb => by cases hb)
    · exact grow (by omega) (run_firstCells_none w.drew i.size 0 0 0)
  | some ad =>
    obtain ⟨h1, h2, h3, cur, fz, h4, hfz, h5, h6⟩ := hh
    obtain ⟨b, o, sp⟩ := ad
    simp only at h1 h4 h5 h6
    subst h1
    by_cases hfit : n + m ≤ cap
    · have hle : (n + m) * i.size ≤ cap * i.size := Nat.mul_le_mul_right _ hfit
      have hle2 : n * i.size + m * i.size ≤ cap * i.size := by rw [← Nat.add_mul]; exact hle
      have hf := hs.cells
      have hst := run_storeCells_fz (P := P) b (o + n * i.size) T fz ys 0 cur w h4 hfz (by omega) hs.one
      simp only [Nat.add_zero] at hst
      refine ⟨some ⟨b, o, none⟩, cap, w.setRow b (cur.toList.take (o + n * i.size) ++ ys ++ cur.toList.drop (o + n * i.size + ys.length)).toArray, ?_, ?_, fun e => (by cases e), hfit⟩
      · rcases hs.kind with ⟨e', hk'⟩ | hk' <;> simp [Builtin.append_, run_underlying ht, run_underlying hk', sizeOf, typeInfo, hi, hs.len, hfit, hf, add_off, hst]
      · refine Ev.change h hk ⟨rfl, rfl, rfl, by simp, fun c hc hne => setRow_other w b c _ (fun e => hne (by simp [Ent.own, e]))⟩ ⟨rfl, h2, by rw [hlen]; exact hle, _, fz, setRow_heap w b cur _ T _ h4, ?_, ?_, fun j hj => ?_⟩ (fun c hc => .inl hc)
        · have e : (cur.toList.take (o + n * i.size) ++ ys ++ cur.toList.drop (o + n * i.size + ys.length)).toArray.size = cur.size := by
            simp only [List.size_toArray, List.length_append, List.length_take, List.length_drop, Array.length_toList]
            omega
          rw [e]; exact hfz
        · simp only [List.size_toArray, List.length_append, List.length_take, List.length_drop, Array.length_toList]
          omega
        · rw [hlen, Nat.add_mul] at hj
          simp only [List.getElem?_toArray]
          by_cases hjx : j < xs.length
          · rw [List.append_assoc, List.getElem?_append_left (by simp only [List.length_take, Array.length_toList]; omega), List.getElem?_take, if_pos (by omega), Array.getElem?_toList, h6 j hjx, List.getElem?_append_left hjx]
          · have h7 : (cur.toList.take (o + n * i.size)).length = o + n * i.size := by simp only [List.length_take, Array.length_toList]; omega
            rw [List.append_assoc, List.getElem?_append_right (by omega), h7, List.getElem?_append_left (by omega), List.getElem?_append_right (by omega)]
            congr 1
            omega
    · refine grow (by omega) ?_
      refine run_firstCells_some w.drew i.size n ⟨b, o, none⟩ n cap xs hn fun j u hj => ?_
      have := h.reads hk j u hj
      simpa using this
end

end Go.Dbr
