/- Layer 2: the program's store and the document's go together. -/
import Derived.Test.YtfeibokonhdgnaaP2
import Derived.Test.YtfeibokonhdgnaaK8
namespace Go.Proofs.Ytfeibokonhdgnaa
open Go.Dbr
set_option maxRecDepth 100000
set_option maxHeartbeats 2000000
set_option linter.unusedVariables false
set_option linter.unusedSimpArgs false

open Go Go.Sort Go.Maps Go.RowKit
/-- bytes that are read alone -/
abbrev inn (a : Option Addr) (c : Nat) (l : Bs) : Inn := (a, c, 1, bys l, 5)
structure RSame (r : FV) (x : RF) (D : List Inn) : Prop where
  n : r.n = x.2.1.l.length
  a : inn r.a r.c x.2.1.l ∈ D
  m : r.m = x.2.2.2.1.l.length
  b : inn r.b r.d x.2.2.2.1.l ∈ D
  t : r.t = x.2.2.1
  k : (r.k : Int) = x.2.2.2.2.1
structure ROk (x : RF) (D : List Inn) : Prop where
  nm : nmL x.1 = true
  a : inn x.2.1.a x.2.1.c x.2.1.l ∈ D
  b : inn x.2.2.2.1.a x.2.2.2.1.c x.2.2.2.1.l ∈ D
  la : x.2.1.l.length ≤ 65536
  lb : x.2.2.2.1.l.length ≤ 65536
  k0 : 0 ≤ x.2.2.2.2.1
  k1 : x.2.2.2.2.1 ≤ (x.2.2.2.1.l.length : Int)
structure Inv (m : FM) (xs : List RF) (D : List Inn) : Prop where
  nil : inn none 0 [] ∈ D
  sorted : xs.Pairwise (fun x y => x.1 < y.1)
  ok : ∀ x ∈ xs, ROk x D
  len : xs.length ≤ 64
  keys : (m.map (·.1)).Perm (xs.map (·.1))
  same : ∀ x ∈ xs, ∃ r, kvAt m x.1 = some r ∧ RSame r x D
theorem RSame.mono {r : FV} {x : RF} {D D' : List Inn} (h : RSame r x D) (hd : ∀ d ∈ D, d ∈ D') : RSame r x D' := ⟨h.n, hd _ h.a, h.m, hd _ h.b, h.t, h.k⟩
theorem ROk.mono {x : RF} {D D' : List Inn} (h : ROk x D) (hd : ∀ d ∈ D, d ∈ D') : ROk x D' := ⟨h.nm, hd _ h.a, hd _ h.b, h.la, h.lb, h.k0, h.k1⟩
theorem nm_len {s : Bs} (h : nmL s = true) : s.length ≤ 32 := by
  refine Decidable.byContradiction fun g => ?_
  rw [nm_l g] at h
  cases h
theorem nm_len2 {s : Bs} (h : nmL s = true) : s.length ≤ 140737488351232 := Nat.le_trans (nm_len h) (by decide)
theorem mayX_nm {name : Bs} {n : Nat} {t : Bool} {c : Nat} (h : mayX name n t c = 0) : nmL name = true := Decidable.byContradiction fun g => by rw [mayX_1 g] at h; cases h
theorem mayX_full {name : Bs} {n c : Nat} (h : mayX name n false c = 0) : c < 64 := Decidable.byContradiction fun g => by
  rw [mayX_3 (mayX_nm h) (by have := mayX_len h; omega) (by decide) (by omega)] at h
  cases h

/-- where a name stands: what is ahead of it, what is behind -/
structure Plc (name : Bs) (xs pre post : List RF) (mid : Option RF) : Prop where
  eq : xs = pre ++ (mid.toList ++ post)
  hpre : ∀ x ∈ pre, x.1 < name
  hpost : ∀ x ∈ post, name < x.1
  hmid : ∀ x, mid = some x → x.1 = name
  p : plc name xs = pre.length
  hit : hitX name xs = mid.isSome
theorem plc_app {name : Bs} : ∀ {pre r : List RF}, (∀ x ∈ pre, x.1 < name) → plc name (pre ++ r) = pre.length + plc name r
  | [], r, _ => by simp
  | x :: pre, r, h => by
    rw [List.cons_append, plc, if_pos (h x List.mem_cons_self), plc_app (fun y hy => h y (List.mem_cons_of_mem _ hy)), List.length_cons]
    omega
theorem lt_of_ne {a b : Bs} (h1 : ¬ a < b) (h2 : ¬ a = b) : b < a := Decidable.byContradiction fun h3 => h2 (List.le_antisymm (List.not_lt.1 h3) (List.not_lt.1 h1))
theorem plc_split {name : Bs} {xs : List RF} (hs : xs.Pairwise (fun x y => x.1 < y.1)) : ∃ pre mid post, Plc name xs pre post mid := by
  have key : ∀ xs : List RF, xs.Pairwise (fun x y => x.1 < y.1) → ∃ pre mid post, xs = pre ++ (mid.toList ++ post) ∧ (∀ x ∈ pre, x.1 < name) ∧ (∀ x ∈ post, name < x.1) ∧ (∀ x, mid = some x → x.1 = name) := by
    intro xs
    induction xs with
    | nil => intro _; exact ⟨[], none, [], rfl, fun x h => absurd h List.not_mem_nil, fun x h => absurd h List.not_mem_nil, fun x h => by cases h⟩
    | cons x r ih =>
      intro hs
      obtain ⟨h1, h2⟩ := List.pairwise_cons.1 hs
      by_cases hlt : x.1 < name
      · obtain ⟨pre, mid, post, e, p1, p2, p3⟩ := ih h2
        exact ⟨x :: pre, mid, post, by rw [e]; rfl, fun y hy => (List.mem_cons.1 hy).elim (fun g => g ▸ hlt) (p1 y), p2, p3⟩
      · by_cases he : x.1 = name
        · exact ⟨[], some x, r, rfl, fun y hy => absurd hy List.not_mem_nil, fun y hy => he ▸ h1 y hy, fun y hy => by cases hy; exact he⟩
        · exact ⟨[], none, x :: r, rfl, fun y hy => absurd hy List.not_mem_nil, fun y hy => (List.mem_cons.1 hy).elim (fun g => g ▸ lt_of_ne hlt he) (fun g => List.lt_trans (lt_of_ne hlt he) (h1 y g)), fun y hy => by cases hy⟩
  obtain ⟨pre, mid, post, e, p1, p2, p3⟩ := key xs hs
  have hp0 : ∀ r : List RF, (∀ x ∈ r, ¬ x.1 < name) → plc name r = 0 := fun r h => by
    cases r with
    | nil => rfl
    | cons x r => rw [plc, if_neg (h x List.mem_cons_self)]
  have hp : plc name xs = pre.length := by
    rw [e, plc_app p1, hp0, Nat.add_zero]
    intro x hx
    rcases List.mem_append.1 hx with h | h
    · cases mid with
      | none => cases h
      | some y => rw [List.mem_singleton.1 h, p3 y rfl]; exact List.lt_irrefl _
    · exact fun g => List.lt_irrefl _ (List.lt_trans g (p2 x h))
  refine ⟨pre, mid, post, e, p1, p2, p3, hp, ?_⟩
  rw [hitX, hp, e, List.getElem?_append_right (Nat.le_refl _), Nat.sub_self]
  cases mid with
  | some y => show (y.1 == name) = true; rw [p3 y rfl, beq_self_eq_true]
  | none =>
    cases post with
    | nil => rfl
    | cons y r =>
      show (y.1 == name) = false
      refine beq_eq_false_iff_ne.2 fun g => ?_
      have := p2 y List.mem_cons_self
      rw [g] at this
      exact List.lt_irrefl _ this
theorem Plc.set {name : Bs} {xs pre post : List RF} {mid : Option RF} (P : Plc name xs pre post mid) (y : RF) : List.set (madeX name xs) (plc name xs) y = pre ++ (y :: post) := by
  have e := P.eq
  unfold madeX
  cases mid with
  | some x =>
    rw [if_pos (by rw [P.hit]; rfl), P.p, e, List.set_append_right _ _ (Nat.le_refl _), Nat.sub_self]
    rfl
  | none =>
    rw [if_neg (by rw [P.hit]; decide), insX, P.p, e]
    have h1 : (pre ++ ((none : Option RF).toList ++ post)).take pre.length = pre := List.take_left' rfl
    have h2 : (pre ++ ((none : Option RF).toList ++ post)).drop pre.length = post := List.drop_left' rfl
    rw [h1, h2, List.set_append_right _ _ (Nat.le_refl _), Nat.sub_self]
    rfl
theorem Plc.setx {name : Bs} {xs pre post : List RF} {mid : Option RF} (P : Plc name xs pre post mid) (h : hitX name xs = true) (y : RF) : List.set xs (plc name xs) y = pre ++ (y :: post) := by
  have := P.set y
  unfold madeX at this
  rwa [if_pos h] at this
theorem Plc.cut {name : Bs} {xs pre post : List RF} {mid : Option RF} (P : Plc name xs pre post mid) (h : hitX name xs = true) : cutX name xs = pre ++ post := by
  rw [P.hit] at h
  obtain ⟨x, rfl⟩ := Option.isSome_iff_exists.1 h
  have e : xs = pre ++ (x :: post) := P.eq
  rw [cutX, P.p, e, List.take_left' rfl, ← List.drop_drop, List.drop_left' rfl]
  rfl
theorem Plc.made {name : Bs} {xs pre post : List RF} {mid : Option RF} (P : Plc name xs pre post mid) : (madeX name xs)[plc name xs]? = some (mid.getD (zeroF name)) := by
  have e := P.eq
  unfold madeX
  cases mid with
  | some x =>
    rw [if_pos (by rw [P.hit]; rfl), P.p, e, List.getElem?_append_right (Nat.le_refl _), Nat.sub_self]
    rfl
  | none =>
    rw [if_neg (by rw [P.hit]; decide), insX, P.p, e]
    have h1 : (pre ++ ((none : Option RF).toList ++ post)).take pre.length = pre := List.take_left' rfl
    rw [h1, List.getElem?_append_right (Nat.le_refl _), Nat.sub_self]
    rfl
theorem Plc.at {name : Bs} {xs pre post : List RF} {mid : Option RF} (P : Plc name xs pre post mid) (h : hitX name xs = true) : xs[plc name xs]? = some (mid.getD (zeroF name)) := by
  have := P.made
  unfold madeX at this
  rwa [if_pos h] at this
theorem Plc.ne {name : Bs} {xs pre post : List RF} {mid : Option RF} (P : Plc name xs pre post mid) {x : RF} (h : x ∈ pre ++ post) : ¬ x.1 = name := fun g => by
  rcases List.mem_append.1 h with h | h
  · have := P.hpre x h
    rw [g] at this
    exact List.lt_irrefl _ this
  · have := P.hpost x h
    rw [g] at this
    exact List.lt_irrefl _ this
theorem Plc.in {name : Bs} {xs pre post : List RF} {mid : Option RF} (P : Plc name xs pre post mid) {x : RF} (h : x ∈ pre ++ post) : x ∈ xs := by
  rw [P.eq]
  rcases List.mem_append.1 h with h | h
  · exact List.mem_append_left _ h
  · exact List.mem_append_right _ (List.mem_append_right _ h)
theorem Plc.sorted {name : Bs} {xs pre post : List RF} {mid : Option RF} (P : Plc name xs pre post mid) (hs : xs.Pairwise (fun x y => x.1 < y.1)) : (pre ++ post).Pairwise (fun x y => x.1 < y.1) := by
  have e := P.eq
  rw [e] at hs
  obtain ⟨h1, h2, h3⟩ := List.pairwise_append.1 hs
  obtain ⟨_, h5, _⟩ := List.pairwise_append.1 h2
  exact List.pairwise_append.2 ⟨h1, h5, fun a ha b hb => h3 a ha b (List.mem_append_right _ hb)⟩
theorem Plc.sorted2 {name : Bs} {xs pre post : List RF} {mid : Option RF} (P : Plc name xs pre post mid) (hs : xs.Pairwise (fun x y => x.1 < y.1)) {y : RF} (hy : y.1 = name) : (pre ++ (y :: post)).Pairwise (fun x y => x.1 < y.1) := by
  obtain ⟨h1, h2, h3⟩ := List.pairwise_append.1 (P.sorted hs)
  refine List.pairwise_append.2 ⟨h1, List.pairwise_cons.2 ⟨fun b hb => by rw [hy]; exact P.hpost b hb, h2⟩, fun a ha b hb => ?_⟩
  rcases List.mem_cons.1 hb with rfl | hb
  · rw [hy]; exact P.hpre a ha
  · exact h3 a ha b hb

section
variable {m : FM} {xs : List RF} {D : List Inn} {name : Bs}
theorem Inv.isS (I : Inv m xs D) : (kvAt m name).isSome = hitX name xs := by
  obtain ⟨pre, mid, post, P⟩ := plc_split (name := name) I.sorted
  have hne : ∀ x ∈ pre ++ post, ¬ x.1 = name := fun x h => P.ne h
  rw [kvAt_mem, P.hit, Bool.eq_iff_iff, decide_eq_true_eq, I.keys.mem_iff, P.eq]
  cases mid with
  | some x =>
    refine ⟨fun _ => rfl, fun _ => ?_⟩
    rw [List.map_append]
    exact List.mem_append_right _ (List.mem_map.2 ⟨x, List.mem_cons_self, P.hmid x rfl⟩)
  | none =>
    refine ⟨fun h => ?_, fun h => by cases h⟩
    obtain ⟨x, hx, e⟩ := List.mem_map.1 h
    exact absurd e (hne x hx)
theorem Inv.mlen (I : Inv m xs D) : m.length = xs.length := by
  have := I.keys.length_eq
  simpa using this
theorem Inv.may (I : Inv m xs D) (n : Nat) : mayI name n m = mayX name n (hitX name xs) xs.length := by rw [mayI_X, I.isS, I.mlen]
theorem Inv.names (I : Inv m xs D) : sortK m = xs.map (·.1) := by
  rw [sortK, mergeSort_of_perm I.keys]
  refine List.mergeSort_of_pairwise (List.pairwise_map.2 (I.sorted.imp fun {a b} h => ?_))
  exact decide_eq_true (List.le_of_lt h)
theorem Inv.small (I : Inv m xs D) : ∀ p ∈ m, p.1.length ≤ 32 := fun p hp => by
  have h : p.1 ∈ xs.map (·.1) := I.keys.mem_iff.1 (List.mem_map.2 ⟨p, hp, rfl⟩)
  obtain ⟨x, hx, e⟩ := List.mem_map.1 h
  rw [← e]
  exact nm_len (I.ok x hx).nm
/-- what is looked up, of both -/
theorem Inv.recX (I : Inv m xs D) {x : RF} (hh : hitX name xs = true) (hx : xs[plc name xs]? = some x) : x.1 = name ∧ ROk x D ∧ RSame (oldF m name) x D := by
  obtain ⟨pre, mid, post, P⟩ := plc_split (name := name) I.sorted
  have h1 := P.at hh
  rw [hx] at h1
  rw [P.hit] at hh
  obtain ⟨y, rfl⟩ := Option.isSome_iff_exists.1 hh
  have e : x = y := Option.some.inj h1
  subst e
  have hn := P.hmid x rfl
  have hm : x ∈ xs := List.mem_of_getElem? hx
  obtain ⟨r, g1, g2⟩ := I.same x hm
  rw [hn] at g1
  refine ⟨hn, I.ok x hm, ?_⟩
  rw [oldF, g1]
  exact g2
theorem Inv.noX (I : Inv m xs D) (hh : hitX name xs = false) : oldF m name = f0 := by
  have h := I.isS (name := name)
  rw [hh] at h
  rw [oldF, Option.isSome_eq_false_iff.1 h |> Option.isNone_iff_eq_none.1]
  rfl
theorem Inv.torn (I : Inv m xs D) : (oldF m name).t = tornX name xs := by
  cases hh : hitX name xs with
  | false => rw [I.noX hh, tornX_no (by rw [hh]; decide)]; rfl
  | true =>
    have hlt := hit_lt hh
    have hx := List.getElem?_eq_getElem hlt
    rw [tornX_hit hh hx]
    exact (I.recX hh hx).2.2.t
theorem put_keys_in {α : Type} {k : Bs} {v : α} : ∀ {m : List (Bs × α)}, k ∈ m.map (·.1) → (kvPut k v m).map (·.1) = m.map (·.1)
  | [], h => by cases h
  | p :: r, h => by
    unfold kvPut
    by_cases e : k = p.1
    · rw [if_pos e]; simp [e]
    · rw [if_neg e, List.map_cons, List.map_cons, put_keys_in ((List.mem_cons.1 h).resolve_left e)]
/-- a file is written anew, of both -/
theorem Inv.upd (I : Inv m xs D) {pre post : List RF} {mid : Option RF} (P : Plc name xs pre post mid) {D' : List Inn} (hd : ∀ d ∈ D, d ∈ D') {y : RF} {r : FV} (hy : y.1 = name) (ho : ROk y D') (hr : RSame r y D') (hl : (pre ++ (y :: post)).length ≤ 64) :
    Inv (kvPut name r m) (pre ++ (y :: post)) D' := by
  have hmem : ∀ x ∈ pre ++ (y :: post), x = y ∨ x ∈ pre ++ post := fun x hx => by
    rcases List.mem_append.1 hx with h | h
    · exact .inr (List.mem_append_left _ h)
    · exact (List.mem_cons.1 h).elim .inl fun h => .inr (List.mem_append_right _ h)
  refine ⟨hd _ I.nil, P.sorted2 I.sorted hy, fun x hx => ?_, hl, ?_, fun x hx => ?_⟩
  · rcases hmem x hx with rfl | h
    · exact ho
    · exact (I.ok x (P.in h)).mono hd
  · have hk := I.keys
    have hs := I.isS (name := name)
    rw [kvAt_mem, P.hit] at hs
    cases mid with
    | some x =>
      rw [put_keys_in (of_decide_eq_true hs)]
      refine hk.trans ?_
      rw [P.eq]
      simp only [Option.toList_some, List.map_append, List.map_cons, List.map_nil, List.nil_append, List.cons_append, hy, P.hmid x rfl]
      exact List.Perm.refl _
    | none =>
      rw [put_keys (of_decide_eq_false hs)]
      refine (hk.append_right _).trans ?_
      rw [P.eq]
      simp only [Option.toList_none, List.map_append, List.nil_append, List.map_cons, hy, List.append_assoc]
      exact (List.perm_append_comm (l₁ := List.map (fun x => x.1) post) (l₂ := [name])).append_left _
  · rcases hmem x hx with rfl | h
    · exact ⟨r, by rw [hy, kvAt_self], hr⟩
    · obtain ⟨q, g1, g2⟩ := I.same x (P.in h)
      exact ⟨q, by rw [kvAt_other (P.ne h), g1], g2.mono hd⟩
theorem cut_other {α : Type} {k q : Bs} (hn : ¬ q = k) : ∀ {m : List (Bs × α)} {i j : Nat}, (kvFind q (kvCut k m) i).map (·.2) = (kvFind q m j).map (·.2)
  | [], _, _ => rfl
  | p :: r, i, j => by
    have sh : ∀ (r : List (Bs × α)) (i j : Nat), (kvFind q r i).map (·.2) = (kvFind q r j).map (·.2) := by
      intro r
      induction r with
      | nil => intro i j; rfl
      | cons x r ih =>
        intro i j
        rw [kvFind, kvFind]
        split
        · rfl
        · exact ih _ _
    unfold kvCut
    by_cases h : k = p.1
    · have e : kvFind q (p :: r) j = kvFind q r (j + 1) := by rw [kvFind, if_neg (fun e => hn (e.trans h.symm))]
      rw [if_pos h, e]
      exact sh _ _ _
    · rw [if_neg h, kvFind, kvFind]
      split
      · rfl
      · exact cut_other hn
theorem cut_keys {α : Type} {k : Bs} : ∀ {m : List (Bs × α)}, (kvCut k m).map (·.1) = (m.map (·.1)).erase k
  | [] => rfl
  | p :: r => by
    unfold kvCut
    by_cases h : k = p.1
    · rw [if_pos h, List.map_cons, ← h, List.erase_cons_head]
    · rw [if_neg h, List.map_cons, List.map_cons, List.erase_cons_tail (by simpa using fun e => h e.symm), cut_keys]
theorem Inv.cut (I : Inv m xs D) (hh : hitX name xs = true) : Inv (kvCut name m) (cutX name xs) D := by
  obtain ⟨pre, mid, post, P⟩ := plc_split (name := name) I.sorted
  rw [P.cut hh]
  rw [P.hit] at hh
  obtain ⟨x, rfl⟩ := Option.isSome_iff_exists.1 hh
  have e : xs = pre ++ (x :: post) := P.eq
  refine ⟨I.nil, P.sorted I.sorted, fun x hx => I.ok x (P.in hx), ?_, ?_, fun y hy => ?_⟩
  · have := I.len
    rw [e] at this
    simp only [List.length_append, List.length_cons] at this ⊢
    omega
  · rw [cut_keys]
    refine (I.keys.erase name).trans ?_
    rw [e, List.map_append, List.map_append, List.map_cons, P.hmid x rfl, List.erase_append_right _ (fun h => ?_), List.erase_cons_head]
    obtain ⟨y, hy, g⟩ := List.mem_map.1 h
    exact P.ne (List.mem_append_left _ hy) g
  · obtain ⟨q, g1, g2⟩ := I.same y (P.in hy)
    refine ⟨q, ?_, g2⟩
    rw [← g1]
    exact cut_other (P.ne hy)
theorem Inv.put (I : Inv m xs D) {l : Bs} (hm : mayX name l.length (hitX name xs) xs.length = 0) (a1 a2 : Option Addr) (c1 c2 : Nat) :
    Inv (kvPut name ⟨a1, l.length, c1, none, 0, 0, false, 0⟩ m) (List.set (madeX name xs) (plc name xs) (name, ⟨a2, c2, l⟩, false, ⟨none, 0, []⟩, 0, ())) ((D ++ [inn a1 c1 l]) ++ [inn a2 c2 l]) := by
  obtain ⟨pre, mid, post, P⟩ := plc_split (name := name) I.sorted
  rw [P.set]
  have hl := mayX_len hm
  have hn := mayX_nm hm
  refine I.upd P (fun d hd => by simp [hd]) rfl ⟨hn, by simp, by simp [I.nil], hl, by simp, by simp, by simp⟩ ⟨rfl, by simp, rfl, by simp [I.nil], rfl, rfl⟩ ?_
  have := I.len
  rw [P.eq] at this hm
  rw [← P.eq, P.hit] at hm
  cases mid with
  | some x => simpa using this
  | none =>
    have h64 := mayX_full hm
    rw [P.eq] at h64
    simp only [Option.toList_none, List.nil_append, List.length_append, List.length_cons] at h64 ⊢
    omega
theorem Inv.tear (I : Inv m xs D) {l : Bs} (hm : mayX name l.length (hitX name xs) xs.length = 0) {k : Nat} (hk : k ≤ l.length) {nm1 : Bs} {aB : Option Addr} {cB : Nat} {lB : Bs} {t1 : Bool} {aN : Option Addr} {cN : Nat} {lN : Bs} {n1 : Int}
    (hx : (madeX name xs)[plc name xs]? = some (nm1, ⟨aB, cB, lB⟩, t1, ⟨aN, cN, lN⟩, n1, ())) {a0 : Option Addr} {n0 c0 : Nat} {b0 : Option Addr} {m0 d0 : Nat} {t0 : Bool} {k0 : Nat} (ho : oldF m name = ⟨a0, n0, c0, b0, m0, d0, t0, k0⟩) (a1 a2 : Option Addr) (c1 c2 : Nat) :
    Inv (kvPut name ⟨a0, n0, c0, a1, l.length, c1, true, k⟩ m) (List.set (madeX name xs) (plc name xs) (nm1, ⟨aB, cB, lB⟩, true, ⟨a2, c2, l⟩, (k : Int), ())) ((D ++ [inn a1 c1 l]) ++ [inn a2 c2 l]) := by
  obtain ⟨pre, mid, post, P⟩ := plc_split (name := name) I.sorted
  rw [P.set]
  have hl := mayX_len hm
  have hn := mayX_nm hm
  have h64 : (pre ++ ((nm1, ⟨aB, cB, lB⟩, true, ⟨a2, c2, l⟩, (k : Int), ()) :: post : List RF)).length ≤ 64 := by
    have := I.len
    rw [P.eq] at this
    rw [P.hit] at hm
    cases mid with
    | some x => simpa using this
    | none =>
      have h64 := mayX_full hm
      rw [P.eq] at h64
      simp only [Option.toList_none, List.nil_append, List.length_append, List.length_cons] at h64 ⊢
      omega
  have hmade := P.made
  rw [hx] at hmade
  cases hmid : mid with
  | none =>
    subst hmid
    have e : (nm1, (⟨aB, cB, lB⟩ : Sl UInt8), t1, (⟨aN, cN, lN⟩ : Sl UInt8), n1, ()) = zeroF name := Option.some.inj hmade
    simp only [zeroF, Prod.mk.injEq, Sl.mk.injEq] at e
    obtain ⟨rfl, ⟨rfl, rfl, rfl⟩, _⟩ := e
    have h0 := I.noX (name := nm1) (by rw [P.hit]; rfl)
    rw [ho, f0, FV.mk.injEq] at h0
    obtain ⟨rfl, rfl, rfl, _⟩ := h0
    exact I.upd P (fun d hd => by simp [hd]) rfl ⟨hn, by simp [I.nil], by simp, by simp, hl, by simp, by simpa using hk⟩ ⟨rfl, by simp [I.nil], rfl, by simp, rfl, rfl⟩ h64
  | some x =>
    subst hmid
    have e : (nm1, (⟨aB, cB, lB⟩ : Sl UInt8), t1, (⟨aN, cN, lN⟩ : Sl UInt8), n1, ()) = x := Option.some.inj hmade
    have hh : hitX name xs = true := by rw [P.hit]; rfl
    obtain ⟨g1, g2, g3⟩ := I.recX hh (x := x) (by rw [P.at hh]; rfl)
    rw [ho] at g3
    subst e
    have g1 : nm1 = name := g1
    subst g1
    exact I.upd P (fun d hd => by simp [hd]) rfl ⟨hn, by have := g2.a; simp only [] at this; simp [this], by simp, g2.la, hl, by simp, by simpa using hk⟩ ⟨g3.n, by have := g3.a; simp only [] at this; simp [this], rfl, by simp, rfl, rfl⟩ h64
theorem Inv.settle (I : Inv m xs D) (hh : hitX name xs = true) {nm1 : Bs} {aB : Option Addr} {cB : Nat} {lB : Bs} {t1 : Bool} {aN : Option Addr} {cN : Nat} {lN : Bs} {n1 : Int}
    (hx : xs[plc name xs]? = some (nm1, ⟨aB, cB, lB⟩, t1, ⟨aN, cN, lN⟩, n1, ())) {a0 : Option Addr} {n0 c0 : Nat} {b0 : Option Addr} {m0 d0 : Nat} {t0 : Bool} {k0 : Nat} (ho : oldF m name = ⟨a0, n0, c0, b0, m0, d0, t0, k0⟩) :
    Inv (kvPut name ⟨b0, m0, d0, none, 0, 0, false, 0⟩ m) (List.set xs (plc name xs) (name, ⟨aN, cN, lN⟩, false, ⟨none, 0, []⟩, 0, ())) D := by
  obtain ⟨pre, mid, post, P⟩ := plc_split (name := name) I.sorted
  rw [P.setx hh]
  obtain ⟨g1, g2, g3⟩ := I.recX hh hx
  rw [ho] at g3
  refine I.upd P (fun d hd => hd) rfl ⟨g1 ▸ g2.nm, g2.b, I.nil, g2.lb, by simp, by simp, by simp⟩ ⟨g3.m, g3.b, rfl, I.nil, rfl, rfl⟩ ?_
  have h1 := P.hit.symm.trans hh
  obtain ⟨x, rfl⟩ := Option.isSome_iff_exists.1 h1
  have := I.len
  rw [P.eq] at this
  simpa using this
end

end Go.Proofs.Ytfeibokonhdgnaa
