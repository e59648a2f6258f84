/- Slices within what is owned: read alone, carried along as one entry; parts of a slice that is handed in. -/
import Derived.Test.YtfcfgbejpcmmkaaDoorBuild
import Derived.Test.YtfcfgbejpcmmkaaDoorShape
namespace Go.Dbr
open Go Go.RowKit
section
variable {w w0 : World} {L L0 : List Ent}

/-- what an entry gives to those that are read alone -/
def Ent.inn : Ent → List Inn
  | .grp D => D
  | .vec a cap sz xs T => [(a, cap, sz, xs, T)]
  | _ => []
def innAt (L : List Ent) (k : Nat) : List Inn := match L[k]? with
  | some e => e.inn
  | none => []
theorem mem_innAt {L : List Ent} {k : Nat} {d : Inn} (h : d ∈ innAt L k) : ∃ e, L[k]? = some e ∧ d ∈ e.inn := by
  unfold innAt at h
  cases he : L[k]? with
  | none => rw [he] at h; cases h
  | some e => rw [he] at h; exact ⟨e, rfl, h⟩
theorem inn_own {e : Ent} {d : Inn} (h : d ∈ e.inn) {b : Nat} (hb : d.ent.blk = some b) : e.own b := by
  cases e with
  | box b cs T => cases h
  | map b kv => cases h
  | grp D => exact ⟨d, h, hb⟩
  | vec a cap sz xs T =>
    have : d = (a, cap, sz, xs, T) := List.mem_singleton.1 h
    subst this
    exact hb
theorem inn_holds {e : Ent} {d : Inn} (h : d ∈ e.inn) (he : e.holds w) : d.ent.holds0 w := by
  cases e with
  | box b cs T => cases h
  | map b kv => cases h
  | grp D => exact he d h
  | vec a cap sz xs T =>
    have : d = (a, cap, sz, xs, T) := List.mem_singleton.1 h
    subst this
    exact he
/-- some entries are kept, others become one that is read alone -/
theorem Ev.group (H : Ev w0 L0 w L) (is ks : List Nat) {M : List Ent} {D : List Inn} (hm : M.map some = is.map (fun i => L[i]?)) (hD : D = ks.flatMap (innAt L)) (nd : (is ++ ks).Nodup) : Ev w0 L0 w (M ++ [.grp D]) := by
  have ndi : is.Nodup := (List.nodup_append.1 nd).1
  have hh := H.heap
  have inD : ∀ d : Inn, d ∈ D → ∃ (k : Nat) (e : Ent), k ∈ ks ∧ L[k]? = some e ∧ d ∈ e.inn := by
    intro d hd
    rw [hD] at hd
    obtain ⟨k, hk, hd⟩ := List.mem_flatMap.1 hd
    obtain ⟨e, he, hd⟩ := mem_innAt hd
    exact ⟨k, e, hk, he, hd⟩
  have ownD : ∀ b, Owns [Ent.grp D] b → ∃ (k : Nat) (e : Ent), k ∈ ks ∧ L[k]? = some e ∧ e.own b := by
    intro b ⟨i, e, hi, he⟩
    cases i with
    | succ i => simp at hi
    | zero =>
      simp only [List.getElem?_cons_zero, Option.some.injEq] at hi
      subst hi
      obtain ⟨d, hd, hb⟩ := he
      obtain ⟨k, e, hk, hke, hde⟩ := inD d hd
      exact ⟨k, e, hk, hke, inn_own hde hb⟩
  have one : Heap w [Ent.grp D] := by
    have at0 : ∀ (i : Nat) (f : Ent), [Ent.grp D][i]? = some f → i = 0 ∧ f = .grp D := fun i f hi => by
      cases i with
      | zero => exact ⟨rfl, by simpa using hi.symm⟩
      | succ i => simp at hi
    refine ⟨fun i j f g b hi hj _ _ => by rw [(at0 i f hi).1, (at0 j g hj).1], fun i f hi => ?_⟩
    rw [(at0 i f hi).2]
    intro d hd
    obtain ⟨k, e, _, hke, hde⟩ := inD d hd
    exact inn_holds hde (hh.holds k e hke)
  refine ⟨(hh.pick is hm ndi).append one fun b ho ho' => ?_, H.chg, fun b ho => ?_⟩
  · obtain ⟨k, e, hk, hke, heb⟩ := ownD b ho'
    obtain ⟨j, f, hj, hf⟩ := ho
    have h1 : (M.map some)[j]? = some (some f) := by simp [hj]
    rw [hm, List.getElem?_map] at h1
    cases hi : is[j]? with
    | none => simp [hi] at h1
    | some i =>
      have h2 : L[i]? = some f := by simpa [hi] using h1
      have e1 := hh.sep i k f e b h2 hke hf heb
      subst e1
      exact (List.nodup_append.1 nd).2.2 i (List.mem_of_getElem? hi) i hk rfl
  · rcases owns_append.1 ho with h1 | h1
    · exact H.new b (owns_pick hm h1)
    · obtain ⟨k, e, _, hke, heb⟩ := ownD b h1
      exact H.new b ⟨k, e, hke, heb⟩
/-- nothing that is read alone yet -/
theorem Ev.grp0 (H : Ev w0 L0 w L) : Ev w0 L0 w (L ++ [.grp []]) :=
  H.trans (Ev.add H.heap (Chg.refl _ _) (fun d hd => by cases hd) (fun b hb => by obtain ⟨d, hd, _⟩ := hb; cases hd))
/-- one that is read alone, where the callee owns others -/
theorem Heap.innRo (h : Heap w L) {M : List Ent} {k : Nat} {D : List Inn} (hk : L[k]? = some (.grp D)) {a : Option Addr} {cap sz : Nat} {xs : List Value} {T : TypeId} (hd : (a, cap, sz, xs, T) ∈ D) (is : List Nat) (hm : M.map some = is.map (fun i => L[i]?)) (hn : is.contains k = false) : Ro w M a xs := by
  have h0 : Ent.holds0 w (.vec a cap sz xs T) := h.holds k _ hk _ hd
  have one : Heap w [Ent.vec a cap sz xs T] := by
    have at0 : ∀ (i : Nat) (f : Ent), [Ent.vec a cap sz xs T][i]? = some f → i = 0 ∧ f = .vec a cap sz xs T := fun i f hi => by
      cases i with
      | zero => exact ⟨rfl, by simpa using hi.symm⟩
      | succ i => simp at hi
    exact ⟨fun i j f g b hi hj _ _ => by rw [(at0 i f hi).1, (at0 j g hj).1], fun i f hi => by rw [(at0 i f hi).2]; exact h0⟩
  refine ⟨one.reads (k := 0) rfl, fun ad ha _ ho => ?_⟩
  obtain ⟨j, e, hj, he⟩ := ho
  have h1 : (M.map some)[j]? = some (some e) := by simp [hj]
  rw [hm, List.getElem?_map] at h1
  cases hi : is[j]? with
  | none => simp [hi] at h1
  | some i =>
    have h2 : L[i]? = some e := by simpa [hi] using h1
    have := h.sep k i _ e ad.block hk h2 ⟨_, hd, by simp [Inn.ent, Ent.blk, ha]⟩ he
    subst this
    have hmem : k ∈ is := List.mem_of_getElem? hi
    have := List.contains_iff_mem.2 hmem
    rw [hn] at this
    cases this
theorem vec_nz {a : Option Addr} {cap : Nat} {l : List UInt8} {T : TypeId} (h0 : Ent.holds0 w (.vec a cap 1 (bys l) T)) : (a = none → l.length = 0) ∧ l.length ≤ cap := by
  cases a with
  | none =>
    obtain ⟨h1, h2⟩ := h0
    have : l = [] := by
      cases l with
      | nil => rfl
      | cons x r => cases h2
    subst this
    exact ⟨fun _ => rfl, Nat.zero_le _⟩
  | some ad =>
    obtain ⟨_, _, h3, _⟩ := h0
    rw [bys_length, Nat.mul_one] at h3
    exact ⟨fun e => (by cases e), h3⟩
/-- bytes that are read alone -/
theorem Heap.innB (h : Heap w L) {M : List Ent} {k : Nat} {D : List Inn} (hk : L[k]? = some (.grp D)) {a : Option Addr} {cap : Nat} {l : List UInt8} {T : TypeId} (hd : (a, cap, 1, bys l, T) ∈ D) (is : List Nat) (hm : M.map some = is.map (fun i => L[i]?)) (hn : is.contains k = false) (hs : l.length ≤ 140737489403904) : InB w M a cap l := by
  have h0 : Ent.holds0 w (.vec a cap 1 (bys l) T) := h.holds k _ hk _ hd
  exact ⟨h.innRo hk hd is hm hn, (vec_nz h0).1, (vec_nz h0).2, hs⟩
/-- structs whose slices are read alone -/
theorem Heap.innS {α : Type} {f : α → List Value} {sz by_ : Nat} {ok : α → Prop} (h : Heap w L) {M : List Ent} {k : Nat} {a : Option Addr} {cap : Nat} {xs : List α} {T : TypeId} (hk : L[k]? = some (.vec a cap sz (xs.flatMap f) T))
    (hf : ∀ x, (f x).length = sz) (h1 : 0 < sz) (is : List Nat) (hm : M.map some = is.map (fun i => L[i]?)) (hn : is.contains k = false) (hs : xs.length * by_ ≤ 140737488351232) (ho : ∀ x ∈ xs, ok x) : InS f by_ ok w M a cap xs := by
  have h0 : Ent.holds0 w (.vec a cap sz (xs.flatMap f) T) := h.holds k _ hk
  have hlen : ∀ ys : List α, (ys.flatMap f).length = ys.length * sz := by
    intro ys
    induction ys with
    | nil => simp
    | cons y r ih => rw [List.flatMap_cons, List.length_append, hf, ih, List.length_cons, Nat.succ_mul, Nat.add_comm]
  refine ⟨h.ro hk is hm hn, fun ha => ?_, ?_, hs, ho⟩
  · subst ha
    obtain ⟨_, h2⟩ := h0
    have := hlen xs
    rw [h2] at this
    rcases Nat.eq_zero_or_pos xs.length with e | e
    · exact e
    · have := Nat.mul_pos e h1; simp at *; omega
  · cases a with
    | none =>
      obtain ⟨h1', h2⟩ := h0
      have := hlen xs
      rw [h2] at this
      rcases Nat.eq_zero_or_pos xs.length with e | e
      · rw [e]; exact Nat.zero_le _
      · have := Nat.mul_pos e h1; simp at *; omega
    | some ad =>
      obtain ⟨_, _, h3, _⟩ := h0
      rw [hlen] at h3
      exact Nat.le_of_mul_le_mul_right h3 h1

/-- whoever may read the one may read the other -/
def Sub (a : Option Addr) (c : Nat) (l : List UInt8) (a' : Option Addr) (c' : Nat) (l' : List UInt8) : Prop := ∀ w M, InB w M a c l → InB w M a' c' l'
theorem Sub.self {a : Option Addr} {c : Nat} {l : List UInt8} : Sub a c l a c l := fun _ _ h => h
theorem Sub.nil {a : Option Addr} {c : Nat} {l : List UInt8} : Sub a c l none 0 [] := fun w M _ => InB.nil w M
theorem Sub.trans {a : Option Addr} {c : Nat} {l : List UInt8} {a' : Option Addr} {c' : Nat} {l' : List UInt8} {a2 : Option Addr} {c2 : Nat} {l2 : List UInt8} (h : Sub a c l a' c' l') (k : Sub a' c' l' a2 c2 l2) : Sub a c l a2 c2 l2 := fun w M i => k w M (h w M i)
end
end Go.Dbr
