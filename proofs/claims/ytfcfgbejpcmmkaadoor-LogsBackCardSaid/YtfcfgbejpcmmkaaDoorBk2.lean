import Derived.Test.YtfcfgbejpcmmkaaDoorBk1
import Derived.Test.YtfcfgbejpcmmkaaDoorRows
import Derived.Deep.Slices
import Derived.ChangeArms
import Derived.Lib.AppendZeros
import Derived.Laws.CopyRow
import Derived.Laws.MakeOwn
import Derived.ChangeKeysEq
import Derived.Laws.StructEq
import Derived.OrdersHeld
/- What is handed in to a law, of any shape that is read alone: numbers, texts, structs, arrays, slices of them. -/




namespace Go.Dbr
open Go Go.RowKit Go.ChangeShapes Go.WideShapes Go.ChangeAt

structure Sl (α : Type) where
  a : Option Addr
  c : Nat
  l : List α
def Sl.val {α : Type} (s : Sl α) : Value := .slice s.a s.l.length s.c
def Sl.f {α : Type} (s : Sl α) : List Value := [.slice s.a s.l.length s.c]

/-- a slice that is read alone, its elements of sz cells each -/
structure InS {α : Type} (f : α → List Value) (by_ : Nat) (ok : α → Prop) (w : World) (L : List Ent) (a : Option Addr) (c : Nat) (l : List α) : Prop where
  ro : Ro w L a (l.flatMap f)
  nz : a = none → l.length = 0
  cap : l.length ≤ c
  small : l.length * by_ ≤ 140737488351232
  each : ∀ x ∈ l, ok x

theorem InS.ev {α : Type} {f : α → List Value} {b : Nat} {ok ok' : α → Prop} {w w' : World} {L L' : List Ent} {a : Option Addr} {c : Nat} {l : List α} (h : InS f b ok w L a c l) (e : Ev w L w' L') (ho : ∀ x, ok x → ok' x) : InS f b ok' w' L' a c l := ⟨h.ro.ev e, h.nz, h.cap, h.small, fun x hx => ho x (h.each x hx)⟩
theorem InS.of {α : Type} {f : α → List Value} {b : Nat} {ok ok' : α → Prop} {w : World} {L M : List Ent} {a : Option Addr} {c : Nat} {l : List α} (h : InS f b ok w L a c l) (hm : ∀ b, Owns M b → Owns L b) (ho : ∀ x, ok x → ok' x) : InS f b ok' w M a c l := ⟨h.ro.of hm, h.nz, h.cap, h.small, fun x hx => ho x (h.each x hx)⟩
theorem InS.go {α : Type} {f : α → List Value} {b : Nat} {ok ok' : α → Prop} {w w' : World} {L L' M : List Ent} {a : Option Addr} {c : Nat} {l : List α} (h : InS f b ok w L a c l) (e : Ev w L w' L') (is : List Nat) (hm : M.map some = is.map (fun i => L'[i]?)) (ho : ∀ x, ok x → ok' x) : InS f b ok' w' M a c l := ⟨(h.ro.ev e).pick is hm, h.nz, h.cap, h.small, fun x hx => ho x (h.each x hx)⟩
theorem InS.take {α : Type} {f : α → List Value} {b : Nat} {ok : α → Prop} {w : World} {L : List Ent} {a : Option Addr} {c : Nat} {l : List α} (h : InS f b ok w L a c l) (n : Nat) : InS f b ok w L a c (l.take n) := by
  refine ⟨?_, fun e => by rw [List.length_take, h.nz e]; exact Nat.min_zero _, by have := h.cap; simp; omega, Nat.le_trans (Nat.mul_le_mul_right _ (by simp; omega)) h.small, fun x hx => h.each x (List.mem_of_mem_take hx)⟩
  have e : (l.take n).flatMap f = (l.flatMap f).take ((l.take n).flatMap f).length := by
    have e : l.flatMap f = (l.take n).flatMap f ++ (l.drop n).flatMap f := by rw [← List.flatMap_append, List.take_append_drop]
    rw [e, List.take_left' rfl]
  refine ⟨?_, fun ad ha hx => h.ro.off ad ha fun h0 => hx ?_⟩
  · rw [e]; exact h.ro.reads.take _
  · rw [e, h0]; simp
theorem InS.reads {α : Type} {f : α → List Value} {b : Nat} {ok : α → Prop} {w : World} {L : List Ent} {a : Option Addr} {c : Nat} {l : List α} (h : InS f b ok w L a c l) : Reads w a (l.flatMap f) := h.ro.reads

theorem flat_get {α : Type} {f : α → List Value} {sz : Nat} : ∀ {l : List α} {i j : Nat} {x : α}, (∀ x ∈ l, (f x).length = sz) → l[i]? = some x → j < sz → (l.flatMap f)[i * sz + j]? = (f x)[j]?
  | [], i, j, x, _, h, _ => by simp at h
  | y :: r, 0, j, x, hl, h, hj => by
    simp only [List.getElem?_cons_zero, Option.some.injEq] at h
    subst h
    rw [List.flatMap_cons, Nat.zero_mul, Nat.zero_add, List.getElem?_append_left (by rw [hl y (by simp)]; exact hj)]
  | y :: r, i + 1, j, x, hl, h, hj => by
    rw [List.getElem?_cons_succ] at h
    rw [List.flatMap_cons, List.getElem?_append_right (by rw [hl y (by simp), Nat.add_mul]; omega), hl y (by simp)]
    have e : (i + 1) * sz + j - sz = i * sz + j := by rw [Nat.add_mul]; omega
    rw [e]
    exact flat_get (fun x hx => hl x (by simp [hx])) h hj

theorem flat_sub {α : Type} {f : α → List Value} {sz off m : Nat} {l : List α} {i : Nat} {x : α} {xs : List Value} (hl : ∀ x ∈ l, (f x).length = sz) (h : l[i]? = some x) (hm : off + m ≤ sz) (hx : ((f x).drop off).take m = xs) : ∀ j, j < m → (l.flatMap f)[i * sz + off + j]? = xs[j]? := by
  intro j hj
  rw [Nat.add_assoc, flat_get hl h (by omega), ← hx, List.getElem?_take, if_pos hj, List.getElem?_drop]
theorem flat_get_inv {α : Type} {f : α → List Value} {sz : Nat} : ∀ {l : List α} {j : Nat} {u : Value}, (∀ x ∈ l, (f x).length = sz) → (l.flatMap f)[j]? = some u → ∃ i k x, j = i * sz + k ∧ k < sz ∧ l[i]? = some x ∧ (f x)[k]? = some u
  | [], j, u, _, h => by simp at h
  | y :: r, j, u, hl, h => by
    rw [List.flatMap_cons] at h
    by_cases hj : j < sz
    · rw [List.getElem?_append_left (by rw [hl y (by simp)]; exact hj)] at h
      exact ⟨0, j, y, by omega, hj, rfl, h⟩
    · rw [List.getElem?_append_right (by rw [hl y (by simp)]; omega), hl y (by simp)] at h
      obtain ⟨i, k, x, h1, h2, h3, h4⟩ := flat_get_inv (fun x hx => hl x (by simp [hx])) h
      exact ⟨i + 1, k, x, by rw [Nat.add_mul]; omega, h2, by simpa using h3, h4⟩

section
variable {H : Type} (enc : TypeId × Value → H) (P : Program) (W : World)

def Opens {α : Type} (T : TypeId) (sz : Nat) (f : α → List Value) (ok : α → Prop) (m : α → Nat) : Prop :=
  P.cellsOf T = sz ∧ (∀ x, ok x → (f x).length = sz) ∧ ∀ (fuel : Nat) (cs : List Value) (x : DataW H × List MemPlace), DataW.trod enc P W 0 (fun _ => true) true fuel T cs = some x → (∀ n ∈ x.1.weights P T, n ≤ reachBytes) → ∃ y : α, cs = f y ∧ ok y ∧ m y + 1 ≤ Go.Proofs.YtfcfgbejpcmmkaaDoor.Rows.uptoBulk x.1

/-- the fields from an offset on -/
def OpensF {α : Type} (fs : List Field) (off sz : Nat) (f : α → List Value) (ok : α → Prop) (m : α → Nat) : Prop :=
  (∀ x, ok x → (f x).length = sz) ∧ ∀ (fuel : Nat) (cs : List Value) (xs : List (DataW H × List MemPlace)), xs.length = fs.length → cs.length = off + sz →
    (∀ (i : Nat) (g : Field), fs[i]? = some g → DataW.trod enc P W 0 (fun _ => true) true fuel g.type ((cs.drop g.offset).take (P.cellsOf g.type)) = xs[i]?) →
    (∀ n ∈ DataW.weightsEach P (fs.map (·.type)) (xs.map (·.1)), n ≤ reachBytes) → ∃ y : α, cs.drop off = f y ∧ ok y ∧ m y ≤ Go.Proofs.YtfcfgbejpcmmkaaDoor.Rows.uptoBulkAll (xs.map (·.1))
end

section
variable {H : Type} {enc : TypeId × Value → H} {P : Program} {W : World}

theorem bulk_le {H : Type} : ∀ {l : List (DataW H)} {n : Nat} {g : Nat → Nat}, n ≤ l.length → (∀ i d, i < n → l[i]? = some d → g i + 1 ≤ Go.Proofs.YtfcfgbejpcmmkaaDoor.Rows.uptoBulk d) → ((List.range n).map fun i => g i + 1).sum ≤ Go.Proofs.YtfcfgbejpcmmkaaDoor.Rows.uptoBulkAll l
  | _, 0, g, _, _ => by simp
  | [], n + 1, g, h, _ => by simp at h
  | d :: r, n + 1, g, h, hg => by
    have h0 := hg 0 d (by omega) rfl
    have ih := bulk_le (l := r) (n := n) (g := fun i => g (i + 1)) (by simpa using h) fun i e hi he => hg (i + 1) e (by omega) (by simpa using he)
    rw [List.range_succ_eq_map, List.map_cons, List.map_map, List.sum_cons]
    simp only [Go.Proofs.YtfcfgbejpcmmkaaDoor.Rows.uptoBulkAll]
    have e : (List.map ((fun i => g i + 1) ∘ Nat.succ) (List.range n)) = (List.range n).map fun i => g (i + 1) + 1 := rfl
    rw [e]
    omega
theorem sum_at {α : Type} {m : α → Nat} {g : Nat → Nat} : ∀ {l : List α} {k : Nat}, (∀ (i : Nat) (x : α), l[i]? = some x → m x = g (k + i)) → (l.map fun x => m x + 1).sum = ((List.range l.length).map fun i => g (k + i) + 1).sum
  | [], _, _ => rfl
  | x :: r, k, h => by
    have h0 := h 0 x rfl
    have ih := sum_at (m := m) (g := g) (l := r) (k := k + 1) fun i y hy => by have := h (i + 1) y (by simpa using hy); rw [this]; congr 1; omega
    rw [List.length_cons, List.range_succ_eq_map, List.map_cons, List.map_cons, List.sum_cons, List.sum_cons, List.map_map, ih, h0]
    congr 2
    apply List.map_congr_left
    intro i _
    show _ = g (k + (i + 1)) + 1
    congr 2
    omega
theorem choose_fun {p : Nat → Nat → Prop} (n : Nat) (h : ∀ i, i < n → ∃ v, p i v) : ∃ g : Nat → Nat, ∀ i, i < n → p i (g i) := by
  induction n with
  | zero => exact ⟨fun _ => 0, fun i hi => by omega⟩
  | succ n ih =>
    obtain ⟨g, hg⟩ := ih fun i hi => h i (by omega)
    obtain ⟨v, hv⟩ := h n (by omega)
    refine ⟨fun i => if i = n then v else g i, fun i hi => ?_⟩
    by_cases e : i = n
    · subst e; simpa using hv
    · simp only [if_neg e]; exact hg i (by omega)
theorem bulk_list {H : Type} {α : Type} {m : α → Nat} {l : List α} {ds : List (DataW H)} (hl : l.length ≤ ds.length) (h : ∀ (i : Nat) (x : α) (d : DataW H), l[i]? = some x → ds[i]? = some d → m x + 1 ≤ Go.Proofs.YtfcfgbejpcmmkaaDoor.Rows.uptoBulk d) : (l.map fun x => m x + 1).sum ≤ Go.Proofs.YtfcfgbejpcmmkaaDoor.Rows.uptoBulkAll ds := by
  obtain ⟨g, hg⟩ := choose_fun (p := fun i v => ∀ x, l[i]? = some x → m x = v) l.length fun i hi => ⟨m l[i], fun x hx => by rw [List.getElem?_eq_getElem hi] at hx; simp only [Option.some.injEq] at hx; rw [hx]⟩
  have e := sum_at (m := m) (g := g) (l := l) (k := 0) fun i x hx => by rw [Nat.zero_add]; exact hg i (List.getElem?_eq_some_iff.1 hx).1 x hx
  rw [e]
  refine Nat.le_trans (Nat.le_of_eq ?_) (bulk_le (n := l.length) (g := g) hl fun i d hi hd => ?_)
  · simp
  · rw [← hg i hi _ (List.getElem?_eq_getElem hi)]
    exact h i _ d (List.getElem?_eq_getElem hi) hd
theorem mem_weightsAll {e : TypeId} : ∀ {ds : List (DataW H)} {d : DataW H} {n : Nat}, d ∈ ds → n ∈ d.weights P e → n ∈ DataW.weightsAll P e ds
  | d0 :: r, d, n, hd, hn => by
    simp only [DataW.weightsAll, List.mem_append]
    rcases List.mem_cons.1 hd with rfl | hd
    · exact .inl hn
    · exact .inr (mem_weightsAll hd hn)

theorem Opens.map {α β : Type} {T : TypeId} {sz : Nat} {f : α → List Value} {ok : α → Prop} {m : α → Nat} {f' : β → List Value} {ok' : β → Prop} {m' : β → Nat} (h : Opens enc P W T sz f ok m) (g : α → β) (hf : ∀ x, f x = f' (g x)) (ho : ∀ x, ok x → ok' (g x)) (hm : ∀ x, m' (g x) ≤ m x) (hl : ∀ y, ok' y → (f' y).length = sz) : Opens enc P W T sz f' ok' m' :=
  ⟨h.1, hl, fun fuel cs d ht hw => by
    obtain ⟨y, rfl, hy, hb⟩ := h.2.2 fuel cs d ht hw
    exact ⟨g y, hf y, ho y hy, Nat.le_trans (Nat.add_le_add_right (hm y) 1) hb⟩⟩

theorem opens_u16 {T : TypeId} (hu : P.underlying T = some (.int .u16)) (hc : P.cellsOf T = 1) : Opens enc P W T 1 (fun n : UInt16 => [uv16 n]) (fun _ => True) (fun _ => 0) :=
  ⟨hc, fun _ _ => rfl, fun _ _ _ ht _ => by
    obtain ⟨n, rfl, rfl, hw⟩ := DataW.trod_int hu ht
    obtain ⟨x, rfl⟩ := lift_u16 hw
    exact ⟨x, rfl, trivial, by simp [Go.Proofs.YtfcfgbejpcmmkaaDoor.Rows.uptoBulk]⟩⟩
theorem opens_u64 {T : TypeId} (hu : P.underlying T = some (.int .u64)) (hc : P.cellsOf T = 1) : Opens enc P W T 1 (fun n : UInt64 => [uv64 n]) (fun _ => True) (fun _ => 0) :=
  ⟨hc, fun _ _ => rfl, fun _ _ _ ht _ => by
    obtain ⟨n, rfl, rfl, hw⟩ := DataW.trod_int hu ht
    obtain ⟨x, rfl⟩ := lift_u64 hw
    exact ⟨x, rfl, trivial, by simp [Go.Proofs.YtfcfgbejpcmmkaaDoor.Rows.uptoBulk]⟩⟩
theorem opens_bool {T : TypeId} (hu : P.underlying T = some .bool) (hc : P.cellsOf T = 1) : Opens enc P W T 1 (fun b : Bool => [.bool b]) (fun _ => True) (fun _ => 0) :=
  ⟨hc, fun _ _ => rfl, fun _ _ _ ht _ => by
    obtain ⟨b, rfl, rfl⟩ := DataW.trod_bool hu ht
    exact ⟨b, rfl, trivial, by simp [Go.Proofs.YtfcfgbejpcmmkaaDoor.Rows.uptoBulk]⟩⟩
theorem opens_string {T : TypeId} (hu : P.underlying T = some .string) (hc : P.cellsOf T = 1) : Opens enc P W T 1 (fun l : List UInt8 => [.string (bstr l)]) (fun l => l.length ≤ 140737488351232) (fun l => l.length) :=
  ⟨hc, fun _ _ => rfl, fun _ _ _ ht hw => by
    obtain ⟨s, rfl, rfl, _⟩ := DataW.trod_string hu ht
    have := hw s.data.toList.length (by simp [DataW.weights])
    refine ⟨s.data.toList, ?_, this, by simp [Go.Proofs.YtfcfgbejpcmmkaaDoor.Rows.uptoBulk]⟩
    cases s
    rfl⟩

theorem opensF_nil {off : Nat} : OpensF enc P W [] off 0 (fun _ : Unit => []) (fun _ => True) (fun _ => 0) :=
  ⟨fun _ _ => rfl, fun _ cs _ _ hl _ _ => ⟨(), List.drop_eq_nil_of_le (by omega), trivial, Nat.zero_le _⟩⟩

theorem opensF_cons {α β : Type} {g : Field} {fs : List Field} {off sz sz' : Nat} {f : α → List Value} {ok : α → Prop} {m : α → Nat} {f' : β → List Value} {ok' : β → Prop} {m' : β → Nat} (h : Opens enc P W g.type sz f ok m) (ho : g.offset = off) (h' : OpensF enc P W fs (off + sz) sz' f' ok' m') :
    OpensF enc P W (g :: fs) off (sz + sz') (fun p : α × β => f p.1 ++ f' p.2) (fun p => ok p.1 ∧ ok' p.2) (fun p => m p.1 + m' p.2) := by
  refine ⟨fun x hx => by rw [List.length_append, h.2.1 _ hx.1, h'.1 _ hx.2], fun fuel cs xs hxl hl ht hw => ?_⟩
  cases xs with
  | nil => simp at hxl
  | cons x xs =>
    have h0 := ht 0 g rfl
    rw [List.getElem?_cons_zero, ho, h.1] at h0
    simp only [List.map_cons, DataW.weightsEach, List.mem_append] at hw
    obtain ⟨y, hy, oy, by_⟩ := h.2.2 fuel _ x h0 fun n hn => hw n (.inl hn)
    obtain ⟨z, hz, oz, bz⟩ := h'.2 fuel cs xs (by simpa using hxl) (by omega) (fun i g' hg => by
      have := ht (i + 1) g' (by simpa using hg)
      rwa [List.getElem?_cons_succ] at this) fun n hn => hw n (.inr hn)
    refine ⟨(y, z), ?_, ⟨oy, oz⟩, ?_⟩
    · show _ = f y ++ f' z
      rw [← hy, ← hz, ← List.drop_drop, List.take_append_drop]
    · simp only [List.map_cons, Go.Proofs.YtfcfgbejpcmmkaaDoor.Rows.uptoBulkAll]
      omega

theorem opens_struct {α : Type} {T : TypeId} {fs : Array Field} {sz : Nat} {f : α → List Value} {ok : α → Prop} {m : α → Nat} (hu : P.underlying T = some (.struct fs)) (hc : P.cellsOf T = sz) (h : OpensF enc P W fs.toList 0 sz f ok m) : Opens enc P W T sz f ok m := by
  refine ⟨hc, h.1, fun fuel cs d ht hw => ?_⟩
  obtain ⟨xs, n, _, rfl, hl, hxl, hx⟩ := DataW.trod_struct hu ht
  obtain ⟨y, hy, oy, b⟩ := h.2 n cs xs (by rw [hxl, Array.length_toList]) (by rw [hl, hc, Nat.zero_add]) (fun i g hg => hx i g (by simpa using hg)) (fun n hn => hw n (by simp only [DataW.weights, hu]; exact hn))
  exact ⟨y, by simpa using hy, oy, by simp only [Go.Proofs.YtfcfgbejpcmmkaaDoor.Rows.uptoBulk]; omega⟩

theorem choose_list {α : Type} {p : Nat → α → Prop} : ∀ n, (∀ i, i < n → ∃ x, p i x) → ∃ l : List α, l.length = n ∧ ∀ i x, l[i]? = some x → p i x
  | 0, _ => ⟨[], rfl, fun i x h => by simp at h⟩
  | n + 1, h => by
    obtain ⟨l, hl, hp⟩ := choose_list n fun i hi => h i (by omega)
    obtain ⟨x, hx⟩ := h n (by omega)
    refine ⟨l ++ [x], by simp [hl], fun i y hy => ?_⟩
    by_cases hi : i < l.length
    · rw [List.getElem?_append_left hi] at hy
      exact hp i y hy
    · rw [List.getElem?_append_right (by omega)] at hy
      have h0 : i - l.length = 0 := by have := (List.getElem?_eq_some_iff.1 hy).1; simp at this; omega
      rw [h0] at hy
      simp only [List.getElem?_cons_zero, Option.some.injEq] at hy
      subst hy
      have : i = n := by omega
      subst this
      exact hx

theorem opens_slice {α : Type} {T e : TypeId} {sz by_ : Nat} {f : α → List Value} {ok : α → Prop} {mm : α → Nat} (hu : P.underlying T = some (.slice e)) (hT : P.cellsOf T = 1) (hby : P.bytesOf e = by_) (h : Opens enc P W e sz f ok mm) :
    Opens enc P W T 1 (fun s : Sl α => s.f) (fun s => InS f by_ ok W [] s.a s.c s.l) (fun s => (s.l.map fun x => mm x + 1).sum) := by
  refine ⟨hT, fun _ _ => rfl, fun fuel cs d ht hw => ?_⟩
  rcases Deep.open_slice hu ht with ⟨rfl, rfl⟩ | ⟨a, len, cap, m, n, D, Pl, rfl, _, hl, hm, hmm, rfl, hx⟩
  · exact ⟨⟨none, 0, []⟩, rfl, ⟨ro_nil rfl, fun _ => rfl, Nat.le_refl _, by simp, fun _ h => by cases h⟩, by simp [Go.Proofs.YtfcfgbejpcmmkaaDoor.Rows.uptoBulk]⟩
  · simp only [if_true] at hmm
    obtain rfl := hmm.symm
    simp only [DataW.weights, hu, List.mem_cons, List.mem_append, List.length_map, List.length_range] at hw
    have hs := hw _ (.inl rfl)
    rw [hby] at hs
    have e1 : reachBytes = 140737488351232 := rfl
    rw [e1] at hs
    obtain ⟨l, hll, hlp⟩ := choose_list (p := fun i y => W.cells? 0 (a.add (i * sz)) sz = some (f y) ∧ ok y ∧ mm y + 1 ≤ Go.Proofs.YtfcfgbejpcmmkaaDoor.Rows.uptoBulk (D i)) len fun i hi => by
      obtain ⟨cs', h1, h2⟩ := hx i (by omega)
      rw [h.1] at h1
      obtain ⟨y, rfl, oy, b⟩ := h.2.2 n cs' _ h2 fun k hk => hw k (.inr (.inl (mem_weightsAll (List.mem_map.2 ⟨i, by simpa using hi, rfl⟩) hk)))
      exact ⟨y, h1, oy, b⟩
    have hmem : ∀ x ∈ l, ok x := fun x hx => by
      obtain ⟨i, hi, rfl⟩ := List.mem_iff_getElem.1 hx
      exact (hlp i _ (List.getElem?_eq_getElem hi)).2.1
    refine ⟨⟨some a, cap, l⟩, by simp [Sl.f, hll], ⟨ro_nil ?_, fun h => (by cases h), by show l.length ≤ cap; omega, ?_, hmem⟩, ?_⟩
    rotate_left 2
    · simp only [Go.Proofs.YtfcfgbejpcmmkaaDoor.Rows.uptoBulk]
      have := bulk_list (m := mm) (l := l) (ds := (List.range len).map D) (by simp; omega) fun i x d hx hd => by
        have hi : i < len := by have := (List.getElem?_eq_some_iff.1 hx).1; omega
        simp only [List.getElem?_map, List.getElem?_range hi, Option.map_some, Option.some.injEq] at hd
        rw [← hd]
        exact (hlp i x hx).2.2
      show (l.map fun x => mm x + 1).sum + 1 ≤ _
      omega
    · intro j u hj
      obtain ⟨i, k, x, rfl, hk, hi, hu'⟩ := flat_get_inv (fun x hx => h.2.1 x (hmem x hx)) hj
      have h1 := (World.cells?_some (hlp i x hi).1).2.2 k hk
      rw [hu'] at h1
      rw [← h1, Deep.add_add]
    · show l.length * by_ ≤ _
      have h1 : l.length * by_ ≤ (len + (cap - len)) * by_ := Nat.mul_le_mul_right _ (by omega)
      exact Nat.le_trans h1 hs

/-- a parameter that is one cell -/
theorem open_one {α : Type} {T : TypeId} {f : α → List Value} {ok : α → Prop} {m : α → Nat} (h : Opens enc P W T 1 f ok m) {v : Value} {d : DataW H} {ps : List MemPlace} (hd : DataW.Trod enc P W 0 (fun _ => true) true T v d ps) (hv : v.cells = #[v])
    (hw : ∀ n ∈ d.weights P T, n ≤ reachBytes) : ∃ y : α, [v] = f y ∧ ok y ∧ m y + 1 ≤ Go.Proofs.YtfcfgbejpcmmkaaDoor.Rows.uptoBulk d := by
  obtain ⟨fuel, hf⟩ := hd
  have := h.2.2 fuel _ _ hf hw
  rwa [hv] at this
theorem open_many {α : Type} {T : TypeId} {sz : Nat} {f : α → List Value} {ok : α → Prop} {m : α → Nat} (h : Opens enc P W T sz f ok m) {v : Value} {d : DataW H} {ps : List MemPlace} (hd : DataW.Trod enc P W 0 (fun _ => true) true T v d ps) (hv : ∃ cs, v = .agg cs)
    (hw : ∀ n ∈ d.weights P T, n ≤ reachBytes) : ∃ y : α, v = .agg (f y).toArray ∧ ok y ∧ m y + 1 ≤ Go.Proofs.YtfcfgbejpcmmkaaDoor.Rows.uptoBulk d := by
  obtain ⟨cs, rfl⟩ := hv
  obtain ⟨fuel, hf⟩ := hd
  obtain ⟨y, hy, oy, b⟩ := h.2.2 fuel _ _ hf hw
  refine ⟨y, ?_, oy, b⟩
  have : cs.toList = f y := hy
  rw [← this]
theorem one_int {r : Reach} {b0 : Nat} {T : TypeId} {v : Value} {k : IntKind} (hu : P.underlying T = some (.int k)) (h : Value.okWide P W r b0 T v) : v.cells = #[v] := by obtain ⟨_, rfl⟩ := okWide_int hu h; rfl
theorem one_string {r : Reach} {b0 : Nat} {T : TypeId} {v : Value} (hu : P.underlying T = some .string) (h : Value.okWide P W r b0 T v) : v.cells = #[v] := by obtain ⟨_, rfl⟩ := okWide_string hu h; rfl
theorem sized_each {ts : List TypeId} {ds : List (DataW H)} (h : (DataW.weightsEach P ts ds).all (· ≤ reachBytes) = true) {j : Nat} {t : TypeId} {d : DataW H} (ht : ts[j]? = some t) (hd : ds[j]? = some d) : ∀ n ∈ d.weights P t, n ≤ reachBytes := fun n hn => by
  have := List.all_eq_true.1 h _ (DataW.weights_mem_each ht hd n hn)
  simpa using this
theorem okWide_agg {r : Reach} {b0 : Nat} {T : TypeId} {v : Value} (hu : (∃ fs, P.underlying T = some (.struct fs)) ∨ ∃ n e, P.underlying T = some (.array n e)) (h : Value.okWide P W r b0 T v) : ∃ cs, v = .agg cs := by
  rcases hu with ⟨fs, hu⟩ | ⟨n, e, hu⟩ <;> simp only [Value.okWide, hu] at h <;> obtain ⟨cs, h1, _⟩ := h <;> exact ⟨cs, h1⟩
end
end Go.Dbr

/- Several cells at once: structs and arrays in memory; texts joined. -/



namespace Go.Dbr
open Go Go.RowKit

theorem one_all {s : List Value} (h : s.all (fun u => u.oneCell') = true) : ∀ u ∈ s, u.oneCell' = true := List.all_eq_true.1 h
theorem cutAt_block {a : Option Addr} {c lo sz : Nat} {ad : Addr} (h : cutAt a c lo sz = some ad) : ∃ b, a = some b ∧ b.block = ad.block := by
  unfold cutAt at h
  split at h
  · exact ⟨ad, h, rfl⟩
  · cases a with
    | none => cases h
    | some b => simp only [Option.map_some, Option.some.injEq] at h; exact ⟨b, rfl, by rw [← h, add_block]⟩
theorem Ro.part {w : World} {L : List Ent} {a a' : Option Addr} {xs ys : List Value} (h : Ro w L a xs) (hr : Reads w a' ys) (hb : ∀ ad, a' = some ad → ∃ b, a = some b ∧ b.block = ad.block) (hne : ys ≠ [] → xs ≠ []) : Ro w L a' ys :=
  ⟨hr, fun ad ha hy => by obtain ⟨b, hb1, hb2⟩ := hb ad ha; rw [← hb2]; exact h.off b hb1 (hne hy)⟩
theorem bys_ne {l : List UInt8} : bys l ≠ [] ↔ l ≠ [] := by simp [bys]
theorem InB.take {w : World} {L : List Ent} {a : Option Addr} {c : Nat} {l : List UInt8} (h : InB w L a c l) (n : Nat) : InB w L a c (List.take n l) :=
  ⟨h.ro.part (bys_take_reads h.reads n) (fun ad ha => ⟨ad, ha, rfl⟩) (fun hy => bys_ne.2 fun e => bys_ne.1 hy (by rw [e]; simp)), fun e => by rw [List.length_take, h.nz e]; exact Nat.min_zero _, by have := h.cap; rw [List.length_take]; omega, by have := h.small; rw [List.length_take]; omega⟩
theorem InB.drop {w : World} {L : List Ent} {a : Option Addr} {c : Nat} {l : List UInt8} (h : InB w L a c l) (lo : Nat) (h1 : lo ≤ l.length) : InB w L (cutAt a c lo 1) (c - lo) (List.drop lo l) :=
  ⟨h.ro.part (bys_drop_reads h.reads c lo rfl h1 h.cap) (fun ad ha => cutAt_block ha) (fun hy => bys_ne.2 fun e => bys_ne.1 hy (by rw [e]; simp)), fun e => by have := h.nz (cutAt_none e); rw [List.length_drop]; omega, by have := h.cap; rw [List.length_drop]; omega, by have := h.small; rw [List.length_drop]; omega⟩
theorem InB.cut {w : World} {L : List Ent} {a : Option Addr} {c : Nat} {l : List UInt8} (h : InB w L a c l) (lo hi : Nat) (h1 : lo ≤ hi) (h2 : hi ≤ l.length) : InB w L (cutAt a c lo 1) (c - lo) (List.take (hi - lo) (List.drop lo l)) :=
  (h.drop lo (by omega)).take _
theorem u16s_ne {l : List UInt16} : u16s l ≠ [] ↔ l ≠ [] := by simp [u16s]
theorem InU16.take {w : World} {L : List Ent} {a : Option Addr} {c : Nat} {l : List UInt16} (h : InU16 w L a c l) (n : Nat) : InU16 w L a c (List.take n l) :=
  ⟨h.ro.part (u16s_take_reads h.reads n) (fun ad ha => ⟨ad, ha, rfl⟩) (fun hy => u16s_ne.2 fun e => u16s_ne.1 hy (by rw [e]; simp)), fun e => by rw [List.length_take, h.nz e]; exact Nat.min_zero _, by have := h.cap; rw [List.length_take]; omega, by have := h.small; rw [List.length_take]; omega⟩
theorem InU16.drop {w : World} {L : List Ent} {a : Option Addr} {c : Nat} {l : List UInt16} (h : InU16 w L a c l) (lo : Nat) (h1 : lo ≤ l.length) : InU16 w L (cutAt a c lo 1) (c - lo) (List.drop lo l) :=
  ⟨h.ro.part (u16s_drop_reads h.reads c lo rfl h1 h.cap) (fun ad ha => cutAt_block ha) (fun hy => u16s_ne.2 fun e => u16s_ne.1 hy (by rw [e]; simp)), fun e => by have := h.nz (cutAt_none e); rw [List.length_drop]; omega, by have := h.cap; rw [List.length_drop]; omega, by have := h.small; rw [List.length_drop]; omega⟩
theorem InU16.cut {w : World} {L : List Ent} {a : Option Addr} {c : Nat} {l : List UInt16} (h : InU16 w L a c l) (lo hi : Nat) (h1 : lo ≤ hi) (h2 : hi ≤ l.length) : InU16 w L (cutAt a c lo 1) (c - lo) (List.take (hi - lo) (List.drop lo l)) :=
  (h.drop lo (by omega)).take _
theorem u32s_ne {l : List UInt32} : u32s l ≠ [] ↔ l ≠ [] := by simp [u32s]
theorem InU32.take {w : World} {L : List Ent} {a : Option Addr} {c : Nat} {l : List UInt32} (h : InU32 w L a c l) (n : Nat) : InU32 w L a c (List.take n l) :=
  ⟨h.ro.part (u32s_take_reads h.reads n) (fun ad ha => ⟨ad, ha, rfl⟩) (fun hy => u32s_ne.2 fun e => u32s_ne.1 hy (by rw [e]; simp)), fun e => by rw [List.length_take, h.nz e]; exact Nat.min_zero _, by have := h.cap; rw [List.length_take]; omega, by have := h.small; rw [List.length_take]; omega⟩
theorem InU32.drop {w : World} {L : List Ent} {a : Option Addr} {c : Nat} {l : List UInt32} (h : InU32 w L a c l) (lo : Nat) (h1 : lo ≤ l.length) : InU32 w L (cutAt a c lo 1) (c - lo) (List.drop lo l) :=
  ⟨h.ro.part (u32s_drop_reads h.reads c lo rfl h1 h.cap) (fun ad ha => cutAt_block ha) (fun hy => u32s_ne.2 fun e => u32s_ne.1 hy (by rw [e]; simp)), fun e => by have := h.nz (cutAt_none e); rw [List.length_drop]; omega, by have := h.cap; rw [List.length_drop]; omega, by have := h.small; rw [List.length_drop]; omega⟩
theorem InU32.cut {w : World} {L : List Ent} {a : Option Addr} {c : Nat} {l : List UInt32} (h : InU32 w L a c l) (lo hi : Nat) (h1 : lo ≤ hi) (h2 : hi ≤ l.length) : InU32 w L (cutAt a c lo 1) (c - lo) (List.take (hi - lo) (List.drop lo l)) :=
  (h.drop lo (by omega)).take _
theorem u64s_ne {l : List UInt64} : u64s l ≠ [] ↔ l ≠ [] := by simp [u64s]
theorem InU64.take {w : World} {L : List Ent} {a : Option Addr} {c : Nat} {l : List UInt64} (h : InU64 w L a c l) (n : Nat) : InU64 w L a c (List.take n l) :=
  ⟨h.ro.part (u64s_take_reads h.reads n) (fun ad ha => ⟨ad, ha, rfl⟩) (fun hy => u64s_ne.2 fun e => u64s_ne.1 hy (by rw [e]; simp)), fun e => by rw [List.length_take, h.nz e]; exact Nat.min_zero _, by have := h.cap; rw [List.length_take]; omega, by have := h.small; rw [List.length_take]; omega⟩
theorem InU64.drop {w : World} {L : List Ent} {a : Option Addr} {c : Nat} {l : List UInt64} (h : InU64 w L a c l) (lo : Nat) (h1 : lo ≤ l.length) : InU64 w L (cutAt a c lo 1) (c - lo) (List.drop lo l) :=
  ⟨h.ro.part (u64s_drop_reads h.reads c lo rfl h1 h.cap) (fun ad ha => cutAt_block ha) (fun hy => u64s_ne.2 fun e => u64s_ne.1 hy (by rw [e]; simp)), fun e => by have := h.nz (cutAt_none e); rw [List.length_drop]; omega, by have := h.cap; rw [List.length_drop]; omega, by have := h.small; rw [List.length_drop]; omega⟩
theorem InU64.cut {w : World} {L : List Ent} {a : Option Addr} {c : Nat} {l : List UInt64} (h : InU64 w L a c l) (lo hi : Nat) (h1 : lo ≤ hi) (h2 : hi ≤ l.length) : InU64 w L (cutAt a c lo 1) (c - lo) (List.take (hi - lo) (List.drop lo l)) :=
  (h.drop lo (by omega)).take _
theorem i64s_ne {l : List Int} : i64s l ≠ [] ↔ l ≠ [] := by simp [i64s]
theorem InI64.take {w : World} {L : List Ent} {a : Option Addr} {c : Nat} {l : List Int} (h : InI64 w L a c l) (n : Nat) : InI64 w L a c (List.take n l) :=
  ⟨h.ro.part (i64s_take_reads h.reads n) (fun ad ha => ⟨ad, ha, rfl⟩) (fun hy => i64s_ne.2 fun e => i64s_ne.1 hy (by rw [e]; simp)), fun e => by rw [List.length_take, h.nz e]; exact Nat.min_zero _, by have := h.cap; rw [List.length_take]; omega, by have := h.small; rw [List.length_take]; omega⟩
theorem InI64.drop {w : World} {L : List Ent} {a : Option Addr} {c : Nat} {l : List Int} (h : InI64 w L a c l) (lo : Nat) (h1 : lo ≤ l.length) : InI64 w L (cutAt a c lo 1) (c - lo) (List.drop lo l) :=
  ⟨h.ro.part (i64s_drop_reads h.reads c lo rfl h1 h.cap) (fun ad ha => cutAt_block ha) (fun hy => i64s_ne.2 fun e => i64s_ne.1 hy (by rw [e]; simp)), fun e => by have := h.nz (cutAt_none e); rw [List.length_drop]; omega, by have := h.cap; rw [List.length_drop]; omega, by have := h.small; rw [List.length_drop]; omega⟩
theorem InI64.cut {w : World} {L : List Ent} {a : Option Addr} {c : Nat} {l : List Int} (h : InI64 w L a c l) (lo hi : Nat) (h1 : lo ≤ hi) (h2 : hi ≤ l.length) : InI64 w L (cutAt a c lo 1) (c - lo) (List.take (hi - lo) (List.drop lo l)) :=
  (h.drop lo (by omega)).take _

section
variable {P : Program} {ops : Array Oper} {Q : Exit → Act → World → Prop} {n i : Nat} {l : List (Nat × Value)} {a : Act} {w w0 : World} {d : Option Tmp} {L L0 : List Ent} {K : Act → World → Prop}

theorem run_loadAgg {t : TypeId} {ad : Addr} {cs : List Value} (ht : (fun w => (isAgg t).run P w) = fun w => .ok true w) (hs : (fun w => (sizeOf t).run P w) = fun w => .ok cs.length w) (hc : ∀ j v, cs[j]? = some v → w.cell? (ad.add j) = some v) :
    (Instr.loadAt t (.pointer (some ad))).run P w = .ok (.agg cs.toArray) w := by
  have h1 : (isAgg t).run P w = .ok true w := congrFun ht w
  have h2 : (sizeOf t).run P w = .ok cs.length w := congrFun hs w
  have h3 := run_loadCells_list (P := P) w ad cs hc
  simp [Instr.loadAt, Instr.sureAddr, loadVar, h1, h2, h3]

theorem Heap.cells {k b off m : Nat} {cs xs : List Value} {T : TypeId} (h : Heap w L) (hk : L[k]? = some (.box b cs T)) (hx : (cs.drop off).take m = xs) : ∀ (j : Nat) (v : Value), xs[j]? = some v → w.cell? ((⟨b, off, none⟩ : Addr).add j) = some v := by
  intro j v hv
  rw [add_off]
  refine h.cell hk ?_
  rw [← hx, List.getElem?_take] at hv
  split at hv
  · rwa [List.getElem?_drop] at hv
  · cases hv

theorem Ev.cellAgg {t : TypeId} {b off k m : Nat} {cs xs : List Value} {T : TypeId} (H : Ev w0 L0 w L) (hk : L[k]? = some (.box b cs T)) (hx : (cs.drop off).take m = xs) (hm : xs.length = m) (ht : (fun w => (isAgg t).run P w) = fun w => .ok true w) (hs : (fun w => (sizeOf t).run P w) = fun w => .ok m w) : (loadVar t ⟨b, off, none⟩).run P w = .ok (.agg xs.toArray) w := by
  subst hm
  have h1 : (isAgg t).run P w = .ok true w := congrFun ht w
  have h2 : (sizeOf t).run P w = .ok xs.length w := congrFun hs w
  have h3 := run_loadCells_list (P := P) w ⟨b, off, none⟩ xs (H.heap.cells hk hx)
  simp [loadVar, h1, h2, h3]

/-- a struct, an array of a box is loaded -/
theorem op_loadaggbox (E : Env a n l) {t : TypeId} {b off k m : Nat} {cs xs : List Value} {T : TypeId} (h : opAt ops n i l = some (.run d (nv (Instr.loadAt t (.pointer (some ⟨b, off, none⟩))))))
    (H : Ev w0 L0 w L) (hk : L[k]? = some (.box b cs T)) (hx : (cs.drop off).take m = xs) (hm : xs.length = m) (ht : (fun w => (isAgg t).run P w) = fun w => .ok true w) (hs : (fun w => (sizeOf t).run P w) = fun w => .ok m w)
    (next : ∀ a', Env a' n (putl d (.agg xs.toArray) l) → K a' w) : wpOp P ops Q i K a w := by
  subst hm
  exact op_val E h (run_loadAgg ht hs (H.heap.cells hk hx)) next

/-- .. of elements -/
theorem op_loadaggat (E : Env a n l) {t : TypeId} {ad A : Addr} {ao : Option Addr} {o m : Nat} {ys xs : List Value} (h : opAt ops n i l = some (.run d (nv (Instr.loadAt t (.pointer (some A))))))
    (hA : A = ad.add o) (hr : Reads w ao ys) (ha : ao = some ad) (hx : ∀ j, j < m → ys[o + j]? = xs[j]?) (hm : xs.length = m) (ht : (fun w => (isAgg t).run P w) = fun w => .ok true w) (hs : (fun w => (sizeOf t).run P w) = fun w => .ok m w)
    (next : ∀ a', Env a' n (putl d (.agg xs.toArray) l) → K a' w) : wpOp P ops Q i K a w := by
  subst hA ha hm
  refine op_val E h (run_loadAgg ht hs fun j v hv => ?_) next
  rw [Deep.add_add]
  exact hr (o + j) v (by rw [hx j (List.getElem?_eq_some_iff.1 hv).1, hv])

theorem Heap.setRange {k b off : Nat} {cs xs : List Value} {T : TypeId} (h : Heap w L) (hk : L[k]? = some (.box b cs T)) :
    Ev w L (w.setRow b (cs.take off ++ xs ++ cs.drop (off + xs.length)).toArray) (L.set k (.box b (cs.take off ++ xs ++ cs.drop (off + xs.length)) T)) := by
  have hh : w.heap[b]? = some (.cells cs.toArray T (0, 0)) := h.holds k _ hk
  exact Ev.change h hk ⟨rfl, rfl, rfl, by simp, fun c hc hne => setRow_other w b c _ (fun e => hne (by simp [Ent.own, e]))⟩ (setRow_heap w b cs.toArray _ T _ hh) (fun c hc => .inl hc)

theorem run_storeAgg {k b off : Nat} {cs xs : List Value} {T t : TypeId} {v : Value} (hv : v.cells = xs.toArray) (hs : (fun w => (sizeOf t).run P w) = fun w => .ok xs.length w) (h : Heap w L) (hk : L[k]? = some (.box b cs T)) (hl : off + xs.length ≤ cs.length) (h1 : ∀ u ∈ xs, u.oneCell' = true) :
    (Instr.storeAt t (.pointer (some ⟨b, off, none⟩)) v).run P w = .ok () (w.setRow b (cs.take off ++ xs ++ cs.drop (off + xs.length)).toArray) := by
  have hh : w.heap[b]? = some (.cells cs.toArray T (0, 0)) := h.holds k _ hk
  have h2 : (sizeOf t).run P w = .ok xs.length w := congrFun hs w
  have h3 := run_storeCells_at P b off T xs 0 cs.toArray w hh (by simpa using hl) h1
  simp only [Nat.add_zero] at h3
  simp [Instr.storeAt, Instr.sureAddr, storeVar, hv, h2, h3]

/-- a struct, an array is stored -/
theorem op_storeaggbox (E : Env a n l) {t : TypeId} {b off k m : Nat} {cs xs cs' : List Value} {T : TypeId} {v : Value} (h : opAt ops n i l = some (.run d (nu (Instr.storeAt t (.pointer (some ⟨b, off, none⟩)) v))))
    (H : Ev w0 L0 w L) (hk : L[k]? = some (.box b cs T)) (hv : v.cells = xs.toArray) (hm : xs.length = m) (hl : off + m ≤ cs.length) (hs : (fun w => (sizeOf t).run P w) = fun w => .ok m w) (h1 : ∀ u ∈ xs, u.oneCell' = true)
    (hc : cs.take off ++ xs ++ cs.drop (off + m) = cs') {L' : List Ent} (hL : L.set k (.box b cs' T) = L')
    (next : ∀ a' w', Env a' n (putl d undef l) → Ev w0 L0 w' L' → K a' w') : wpOp P ops Q i K a w := by
  subst hm hc hL
  exact any_unit E h (run_nu (run_storeAgg hv hs H.heap hk hl h1)) fun a' E' => next a' _ E' (H.trans (H.heap.setRange hk))

theorem run_add_str (x y : List UInt8) (h : x.length + y.length ≤ 9223372036854775807) (w : World) : (Op.stringOp .add (bstr x) (bstr y)).run P w = .ok (.string (bstr (x ++ y))) w := by
  have h1 : ¬ (((bstr x).size + (bstr y).size : Nat) : Int) > IntKind.i64.max := by
    rw [bstr_size, bstr_size]
    simp only [IntKind.max, IntKind.signed, IntKind.bits]
    simp
    omega
  simp only [Op.stringOp, if_neg h1, Sem.run_pure, bstr_append]

set_option linter.unusedSimpArgs false in
theorem run_rem_nat (x y : Nat) (hy : 0 < y) (w : World) : (Op.intDiv .rem .i64 ((x : Nat) : Int) ((y : Nat) : Int)).run P w = .ok (.int .i64 ((x % y : Nat) : Int)) w := by
  have h : ¬ ((y : Nat) : Int) = 0 := by omega
  unfold Op.intDiv
  simp only [h, if_false]
  rw [show Int.tmod ((x : Nat) : Int) ((y : Nat) : Int) = ((x % y : Nat) : Int) from rfl]
  rfl
end
end Go.Dbr

/- copy, make, arrays that are compared, slices of arrays. -/





namespace Go.Dbr
open Go Go.RowKit

theorem bys_getD {l : List UInt8} {j : Nat} (h : j < l.length) : (bys l)[j]? = some (bv (l.getD j 0)) := by rw [bys_get h]; simp [List.getD, h]
section
variable {P : Program} {ops : Array Oper} {Q : Exit → Act → World → Prop} {n i : Nat} {l : List (Nat × Value)} {a : Act} {w w0 : World} {d : Option Tmp} {L L0 : List Ent} {K : Act → World → Prop}

theorem some_of {ao : Option Addr} {m j : Nat} (hz : ao = none → m = 0) (h : j < m) : ∃ ad, ao = some ad := by
  cases ao with
  | none => have := hz rfl; omega
  | some ad => exact ⟨ad, rfl⟩
theorem run_indexsl {t e : TypeId} {sz len cap j jo : Nat} {k : IntKind} {ix : Int} {ao : Option Addr} {ad : Addr} (had : ao = some ad) (hu : P.underlying t = some (.slice e)) (hs : (fun w => (sizeOf e).run P w) = fun w => .ok sz w) (hj : ix = (j : Int)) (h1 : j < len) (hjo : j * sz = jo) (w : World) :
    (Instr.indexAt t (.slice ao len cap) (.int k ix)).run P w = .ok (.pointer (some (ad.add jo))) w := by
  subst had hjo hj
  have := run_indexAt (w := w) (k := k) hu hs ad len cap ((j : Nat) : Int) (by omega) (by omega)
  simpa using this
/-! ### arrays that are compared -/
theorem run_eqItems_int {e : TypeId} {k : IntKind} (he : P.underlying e = some (.int k)) (ha : (fun w => (isAgg e).run P w) = fun w => .ok false w) (dd : Nat) (xs ys : List Int) :
    ∀ (is : List Nat), (∀ j ∈ is, j < xs.length ∧ j < ys.length) → (Op.eqItems (dd + 1) e 1 (xs.map (Value.int k)).toArray (ys.map (Value.int k)).toArray is).run P w = .ok (is.all fun j => xs[j]? == ys[j]?) w
  | [], _ => by simp [Op.eqItems]
  | j :: is, h => by
    have ha' : (isAgg e).run P w = .ok false w := congrFun ha w
    obtain ⟨h1, h2⟩ := h j (by simp)
    have ih := run_eqItems_int he ha dd xs ys is (fun q hq => h q (by simp [hq]))
    have p1 : (part e (xs.map (Value.int k)).toArray (j * 1)).run P w = .ok (.int k xs[j]) w := by
      simp [part, ha', h1]
    have p2 : (part e (ys.map (Value.int k)).toArray (j * 1)).run P w = .ok (.int k ys[j]) w := by
      simp [part, ha', h2]
    have p3 : (Op.equalIn (dd + 1) e (.int k xs[j]) (.int k ys[j])).run P w = .ok (xs[j] == ys[j]) w := by
      unfold Op.equalIn
      simp only [Sem.run_bind, run_underlying he, Result.andThen]
      simp
    simp only [Op.eqItems, Sem.run_bind, p1, p2, p3, Result.andThen_ok]
    have e1 : (xs[j]? == ys[j]?) = (xs[j] == ys[j]) := by rw [List.getElem?_eq_getElem h1, List.getElem?_eq_getElem h2]; rfl
    rw [List.all_cons, e1]
    cases (xs[j] == ys[j])
    · simp
    · simpa using ih
theorem all_get {xs ys : List Int} {n : Nat} (hx : xs.length = n) (hy : ys.length = n) : ((List.range n).all fun j => xs[j]? == ys[j]?) = (xs == ys) := by
  rw [Bool.eq_iff_iff, List.all_eq_true, beq_iff_eq]
  constructor
  · intro h
    apply List.ext_getElem?
    intro j
    by_cases hj : j < n
    · simpa using h j (by simpa using hj)
    · rw [List.getElem?_eq_none (by omega), List.getElem?_eq_none (by omega)]
  · rintro rfl j _
    simp
theorem u64s_ints (l : List UInt64) : u64s l = (l.map fun x => ((UInt64.toNat x : Nat) : Int)).map (Value.int .u64) := by simp [u64s, uv64]
theorem u64s_inj (l m : List UInt64) : ((l.map fun x => ((UInt64.toNat x : Nat) : Int)) == (m.map fun x => ((UInt64.toNat x : Nat) : Int))) = (l == m) := by
  rw [Bool.eq_iff_iff, beq_iff_eq, beq_iff_eq]
  constructor
  · intro h
    exact List.map_inj_right (fun x y e => UInt64.toNat_inj.1 (by omega)) |>.1 h
  · rintro rfl; rfl
end
end Go.Dbr

/- append of zeros to what is owned; a slice's array. -/

namespace Go.Dbr
open Go Go.RowKit
section
set_option linter.unusedSimpArgs false
variable {P : Program}

variable {ops : Array Oper} {Q : Exit → Act → World → Prop} {n i : Nat} {l : List (Nat × Value)} {a : Act} {w w0 : World} {L L0 : List Ent} {d : Option Tmp} {K : Act → World → Prop}
end
end Go.Dbr

/- x[:n:n] of what is owned. -/

namespace Go.Dbr
open Go Go.RowKit
section
variable {P : Program} {ops : Array Oper} {Q : Exit → Act → World → Prop} {n i : Nat} {l : List (Nat × Value)} {a : Act} {w w0 : World} {L L0 : List Ent} {d : Option Tmp} {K : Act → World → Prop}
end
end Go.Dbr

/- Drawn regions: what only reads comes first, as long as what it reads stands. -/


namespace Go.Dbr
open Go Go.RowKit
set_option linter.unusedSimpArgs false

section
variable {P : Program} {ops : Array Oper} {Q : Exit → Act → World → Prop} {S : World → Prop} {St : List Nat}

/-- in any order; as long as none of 'St' has come up, S holds behind each operation -/
def wpAnyS (P : Program) (ops : Array Oper) (Q : Exit → Act → World → Prop) (S : World → Prop) (St : List Nat) : Nat → Array Bool → Act → World → Prop
  | 0, listed, a, w => Region.ready .any ops listed = [] ∧ Q .normal a w
  | m + 1, listed, a, w =>
    (Region.ready .any ops listed = [] → Q .normal a w) ∧
    ∀ i ∈ Region.ready .any ops listed, wpOp P ops Q i (fun a' w' => ((St.all fun s => !(listed.setIfInBounds i true).getD s true) = true → S w') ∧ wpAnyS P ops Q S St m (listed.setIfInBounds i true) a' w') a w

theorem wpAny_of_S : ∀ (m : Nat) (listed : Array Bool) (a : Act) (w : World), wpAnyS P ops Q S St m listed a w → wpAny P .any ops Q m listed a w
  | 0, _, _, _, h => h
  | m + 1, _, _, _, h => ⟨h.1, fun i hi => wpOp_mono (fun a' w' h' => wpAny_of_S m _ a' w' h'.2) (h.2 i hi)⟩

/-- those that wait for i, one behind the other -/
def waitsGo (ops : Array Oper) (i : Nat) : List Nat → List Nat → List Nat
  | [], R => R
  | j :: r, R => waitsGo ops i r (match ops[j]? with
    | some o => bif o.after.any (fun e => Region.binds .any e && (Nat.beq e.on i || R.contains e.on)) then j :: R else R
    | none => R)
/-- s waits for i -/
def waits (ops : Array Oper) (i s : Nat) : Bool := (waitsGo ops i (List.range ops.size) []).contains s
inductive WaitsT (ops : Array Oper) (i : Nat) : Nat → Prop
  | one {s : Nat} {o : Oper} {e : Edge} (ho : ops[s]? = some o) (he : e ∈ o.after) (hb : Region.binds .any e = true) (hi : e.on = i) : WaitsT ops i s
  | step {s : Nat} {o : Oper} {e : Edge} (ho : ops[s]? = some o) (he : e ∈ o.after) (hb : Region.binds .any e = true) (h : WaitsT ops i e.on) : WaitsT ops i s
theorem waitsGo_spec {ops : Array Oper} {i : Nat} : ∀ (js R : List Nat), (∀ s ∈ R, WaitsT ops i s) → ∀ s ∈ waitsGo ops i js R, WaitsT ops i s
  | [], R, h => h
  | j :: r, R, h => by
    refine waitsGo_spec r _ ?_
    cases ho : ops[j]? with
    | none => exact h
    | some o =>
      simp only
      cases hc : o.after.any (fun e => Region.binds .any e && (Nat.beq e.on i || R.contains e.on)) with
      | false => exact h
      | true =>
        intro s hs
        rcases List.mem_cons.1 hs with rfl | hs
        · obtain ⟨e, he, hb⟩ := Array.any_eq_true'.1 hc
          simp only [Bool.and_eq_true, Bool.or_eq_true] at hb
          rcases hb.2 with hi | hr
          · exact .one ho he hb.1 (Nat.eq_of_beq_eq_true hi)
          · exact .step ho he hb.1 (h _ (List.contains_iff_mem.1 hr))
        · exact h s hs
theorem waits_spec {ops : Array Oper} {i s : Nat} (h : waits ops i s = true) : WaitsT ops i s := waitsGo_spec _ [] (fun _ h => by cases h) s (List.contains_iff_mem.1 h)
/-- what has run has run behind what it waits for -/
def Closed (ops : Array Oper) (listed : Array Bool) : Prop := ∀ (j : Nat) (o : Oper), ops[j]? = some o → listed.getD j false = true → ∀ e ∈ o.after, Region.binds .any e = true → listed.getD e.on false = true
def closedB (ops : Array Oper) (listed : Array Bool) : Bool := (List.range ops.size).all fun j => !listed.getD j false || match ops[j]? with
  | some o => o.after.all fun e => !Region.binds .any e || listed.getD e.on false
  | none => true
theorem closed_of {ops : Array Oper} {listed : Array Bool} (h : closedB ops listed = true) : Closed ops listed := by
  intro j o ho hj e he hb
  have h1 := List.all_eq_true.1 h j (List.mem_range.2 (Array.getElem?_eq_some_iff.1 ho).1)
  rw [hj, ho] at h1
  simp only [Bool.not_true, Bool.false_or] at h1
  have h2 := (Array.all_eq_true_iff_forall_mem.1 h1) e he
  rw [hb] at h2
  simpa using h2
theorem getD_set_true {listed : Array Bool} {j k : Nat} (h : listed.getD k false = true) : (listed.setIfInBounds j true).getD k false = true := by
  by_cases e : j = k
  · subst e
    rcases Nat.lt_or_ge j listed.size with h' | h'
    · simp [h']
    · simp [h'] at h
  · simp [Array.getElem?_setIfInBounds_ne e] at h ⊢
    exact h
theorem Closed.set {ops : Array Oper} {listed : Array Bool} (h : Closed ops listed) {j : Nat} (hj : j ∈ Region.ready .any ops listed) : Closed ops (listed.setIfInBounds j true) := by
  intro k o ho hk e he hb
  obtain ⟨_, oj, hoj, hall⟩ := mem_ready.1 hj
  by_cases ekj : k = j
  · subst ekj
    rw [hoj] at ho
    cases ho
    exact getD_set_true (hall e he hb)
  · refine getD_set_true (h k o ho ?_ e he hb)
    simp [Array.getElem?_setIfInBounds_ne (Ne.symm ekj)] at hk ⊢
    exact hk
theorem WaitsT.no {ops : Array Oper} {listed : Array Bool} {i : Nat} (hc : Closed ops listed) {s : Nat} (h : WaitsT ops i s) : ∀ o, ops[s]? = some o → (∀ e ∈ o.after, Region.binds .any e = true → listed.getD e.on false = true) → listed.getD i false = true := by
  induction h with
  | one ho he hb hi =>
    intro o ho' hall
    rw [ho] at ho'
    cases ho'
    rw [← hi]
    exact hall _ he hb
  | step ho he hb h ih =>
    intro o ho' hall
    rw [ho] at ho'
    cases ho'
    have h1 := hall _ he hb
    cases h with
    | one ho2 he2 hb2 hi2 => exact ih _ ho2 fun e he hb => hc _ _ ho2 h1 e he hb
    | step ho2 he2 hb2 h2 => exact ih _ ho2 fun e he hb => hc _ _ ho2 h1 e he hb

theorem getD_set_keep {listed : Array Bool} {j s : Nat} (h : j ≠ s) : (listed.setIfInBounds j true).getD s true = listed.getD s true := getD_set_ne true h

theorem wpAnyS_take {i : Nat} {oi : Oper} {v : Value} (hi : ops[i]? = some oi) (hsel : Region.noSelect ops = true) (hQ : ∀ c a w, Q (.panic c) (a.put oi.dst v) w → Q (.panic c) a w)
    (hw : (St.all fun s => waits ops i s && s != i) = true) :
    ∀ (m : Nat) (listed : Array Bool) (a : Act) (w : World), Closed ops listed → (∀ j oj, ops[j]? = some oj → j ≠ i → listed.getD j true = false → (∀ e ∈ oj.after, Region.binds .any e = true → e.on ≠ i) → oi.apart ops oj = true) →
      i ∈ Region.ready .any ops listed → (St.all fun s => !listed.getD s true) = true → YieldsIf P ops S oi v a → S w →
      wpAnyS P ops Q S St m (listed.setIfInBounds i true) (a.put oi.dst v) w → wpAnyS P ops Q S St (m + 1) listed a w := by
  have hsi := Region.noSelect_spec hsel i oi
  intro m
  induction m with
  | zero =>
    intro listed a w hcl _ hr hst hy hS H
    refine ⟨fun h => (by rw [h] at hr; cases hr), fun j hj => ?_⟩
    by_cases hji : j = i
    · subst hji
      exact hy.wpOp hi hS ⟨fun _ => hS, H⟩
    · have h2 := ready_mono hj hji
      rw [H.1] at h2
      cases h2
  | succ m ih =>
    intro listed a w hcl hfree hr hst hy hS H
    refine ⟨fun h => (by rw [h] at hr; cases hr), fun j hj => ?_⟩
    by_cases hji : j = i
    · subst hji
      exact hy.wpOp hi hS ⟨fun _ => hS, H⟩
    · have h1 := H.2 j (ready_mono hj hji)
      obtain ⟨hjun, oj, hoj, hall⟩ := mem_ready.1 hj
      have hnot : ∀ e ∈ oj.after, Region.binds .any e = true → e.on ≠ i := fun e he hb heq => by
        have g1 := hall e he hb
        have g0 := (mem_ready.1 hr).1
        rw [heq] at g1
        rcases Nat.lt_or_ge i listed.size with h' | h'
        · simp [h'] at g0 g1
          rw [g0] at g1
          cases g1
        · simp [Array.getElem?_eq_none h'] at g1
      have hjs : ∀ s ∈ St, j ≠ s := fun s hs e => by
        subst e
        have := List.all_eq_true.1 hw j hs
        simp only [Bool.and_eq_true] at this
        have h0 := (waits_spec this.1).no hcl oj hoj hall
        have g0 := (mem_ready.1 hr).1
        rcases Nat.lt_or_ge i listed.size with h' | h'
        · simp [h'] at g0 h0
          rw [g0] at h0
          cases h0
        · simp [h'] at h0
      have his : ∀ s ∈ St, i ≠ s := fun s hs e => by
        subst e
        have := List.all_eq_true.1 hw i hs
        simp at this
      have hst' : (St.all fun s => !(listed.setIfInBounds j true).getD s true) = true := List.all_eq_true.2 fun s hs => by
        rw [getD_set_keep (hjs s hs)]
        exact List.all_eq_true.1 hst s hs
      have hst2 : (St.all fun s => !((listed.setIfInBounds i true).setIfInBounds j true).getD s true) = true := List.all_eq_true.2 fun s hs => by
        rw [getD_set_keep (hjs s hs), getD_set_keep (his s hs)]
        exact List.all_eq_true.1 hst s hs
      have h2 := wpOp_putIf hoj (hfree j oj hoj hji hjun hnot) (fun cs b => Region.noSelect_spec hsel i oi cs b hi) (fun cs b => Region.noSelect_spec hsel j oj cs b hoj) hQ hy h1
      have hfree' : ∀ k ok, ops[k]? = some ok → k ≠ i → (listed.setIfInBounds j true).getD k true = false → (∀ e ∈ ok.after, Region.binds .any e = true → e.on ≠ i) → oi.apart ops ok = true := fun k ok hk hki hun hno => by
        refine hfree k ok hk hki ?_ hno
        by_cases hjk : j = k
        · subst hjk
          exact hjun
        · rwa [getD_set_ne true hjk] at hun
      refine wpOp_mono (fun a' w' h3 => ?_) h2
      have hS' : S w' := h3.2.1 hst2
      refine ⟨fun _ => hS', ih (listed.setIfInBounds j true) a' w' (hcl.set hj) hfree' (ready_mono hr (Ne.symm hji)) hst' h3.1 hS' ?_⟩
      rw [Array.setIfInBounds_comm _ _ hji]
      exact h3.2.2
theorem wpAnyS_pure {i : Nat} {oi : Oper} {v : Value} (hi : ops[i]? = some oi) (hsel : Region.noSelect ops = true) (hQ : ∀ c a w, Q (.panic c) (a.put oi.dst v) w → Q (.panic c) a w)
    (hw : (St.all fun s => s != i) = true) :
    ∀ (m : Nat) (listed : Array Bool) (a : Act) (w : World), (∀ j oj, ops[j]? = some oj → j ≠ i → listed.getD j true = false → (∀ e ∈ oj.after, Region.binds .any e = true → e.on ≠ i) → oi.apart ops oj = true) →
      i ∈ Region.ready .any ops listed → YieldsIf P ops (fun _ => True) oi v a → ((St.all fun s => !listed.getD s true) = true → S w) →
      wpAnyS P ops Q S St m (listed.setIfInBounds i true) (a.put oi.dst v) w → wpAnyS P ops Q S St (m + 1) listed a w := by
  have ne : ∀ s ∈ St, i ≠ s := fun s hs e => by
    subst e
    have := List.all_eq_true.1 hw i hs
    simp at this
  have keep : ∀ (listed : Array Bool), (St.all fun s => !(listed.setIfInBounds i true).getD s true) = true → (St.all fun s => !listed.getD s true) = true := fun listed h => List.all_eq_true.2 fun s hs => by
    have := List.all_eq_true.1 h s hs
    rwa [getD_set_keep (ne s hs)] at this
  have back : ∀ (listed : Array Bool), (St.all fun s => !listed.getD s true) = true → (St.all fun s => !(listed.setIfInBounds i true).getD s true) = true := fun listed h => List.all_eq_true.2 fun s hs => by
    rw [getD_set_keep (ne s hs)]
    exact List.all_eq_true.1 h s hs
  intro m
  induction m with
  | zero =>
    intro listed a w _ hr hy hS H
    refine ⟨fun h => (by rw [h] at hr; cases hr), fun j hj => ?_⟩
    by_cases hji : j = i
    · subst hji
      exact hy.wpOp hi trivial ⟨fun h => hS (keep listed h), H⟩
    · have h2 := ready_mono hj hji
      rw [H.1] at h2
      cases h2
  | succ m ih =>
    intro listed a w hfree hr hy hS H
    refine ⟨fun h => (by rw [h] at hr; cases hr), fun j hj => ?_⟩
    by_cases hji : j = i
    · subst hji
      exact hy.wpOp hi trivial ⟨fun h => hS (keep listed h), H⟩
    · have h1 := H.2 j (ready_mono hj hji)
      obtain ⟨hjun, oj, hoj, hall⟩ := mem_ready.1 hj
      have hnot : ∀ e ∈ oj.after, Region.binds .any e = true → e.on ≠ i := fun e he hb heq => by
        have g1 := hall e he hb
        have g0 := (mem_ready.1 hr).1
        rw [heq] at g1
        rcases Nat.lt_or_ge i listed.size with h' | h'
        · simp [h'] at g0 g1
          rw [g0] at g1
          cases g1
        · simp [Array.getElem?_eq_none h'] at g1
      have h2 := wpOp_putIf hoj (hfree j oj hoj hji hjun hnot) (fun cs b => Region.noSelect_spec hsel i oi cs b hi) (fun cs b => Region.noSelect_spec hsel j oj cs b hoj) hQ hy h1
      have hfree' : ∀ k ok, ops[k]? = some ok → k ≠ i → (listed.setIfInBounds j true).getD k true = false → (∀ e ∈ ok.after, Region.binds .any e = true → e.on ≠ i) → oi.apart ops ok = true := fun k ok hk hki hun hno => by
        refine hfree k ok hk hki ?_ hno
        by_cases hjk : j = k
        · subst hjk
          exact hjun
        · rwa [getD_set_ne true hjk] at hun
      refine wpOp_mono (fun a' w' h3 => ?_) h2
      have hS' : (St.all fun s => !(listed.setIfInBounds j true).getD s true) = true → S w' := fun h => h3.2.1 (by
        rw [Array.setIfInBounds_comm _ _ (Ne.symm hji)]
        exact back _ h)
      refine ⟨hS', ih (listed.setIfInBounds j true) a' w' hfree' (ready_mono hr (Ne.symm hji)) h3.1 hS' ?_⟩
      rw [Array.setIfInBounds_comm _ _ hji]
      exact h3.2.2

theorem not_yet {b : Bool} {p : Prop} (h : b = false) : b = true → p := fun h' => by rw [h] at h'; cases h'
variable {n i : Nat} {l : List (Nat × Value)} {a : Act} {w w0 : World} {d : Option Tmp} {L L0 : List Ent}
abbrev HQ (F : Act → World → Prop) : Exit → Act → World → Prop := fun e a w => e = .normal ∧ F a w

theorem h_start {F : Act → World → Prop} {id : Nat} (S : World → Prop) (St : List Nat) (hm : P.follows .mixedOrders = true) (m : Nat) (hs : ops.size = m)
    (h : wpAnyS P ops (fun e a w => e = .normal ∧ F a w) S St m (Array.replicate m false) a w.drew) :
    (Code.region id ops true).wp P (fun e a w => e = .normal ∧ F a w) a w :=
  draw_any hm m hs (wpAny_of_S _ _ _ _ h)
theorem h_end {F : Act → World → Prop} {m : Nat} {listed : Array Bool} (hr : Region.ready .any ops listed = []) (h : F a w) : wpAnyS P ops (fun e a w => e = .normal ∧ F a w) S St m listed a w := by
  cases m with
  | zero => exact ⟨hr, rfl, h⟩
  | succ m => exact ⟨fun _ => ⟨rfl, h⟩, fun i hi => by rw [hr] at hi; cases hi⟩
/-- an operation that yields its value as long as S holds -/
theorem h_read {F : Act → World → Prop} {m : Nat} {listed listed' : Array Bool} (E : Env a n l) {s : Sem Next} {v : Value} (i : Nat)
    (hr : opAt ops n i l = some (.run d s)) (hv : ∀ w, S w → s.run P w = .ok (.value v) w)
    (hc : (Region.noSelect ops && Region.free .any ops listed i && (Region.ready .any ops listed).contains i && (St.all fun s => waits ops i s && s != i) && (St.all fun s => !listed.getD s true) && closedB ops listed) = true) (hl : listed.setIfInBounds i true = listed') (hS : S w)
    (next : ∀ a', Env a' n (putl d v l) → wpAnyS P ops (fun e a w => e = .normal ∧ F a w) S St m listed' a' w) :
    wpAnyS P ops (fun e a w => e = .normal ∧ F a w) S St (m + 1) listed a w := by
  obtain ⟨o, ho, hw, rfl, hs, hf, _⟩ := opAt_run E hr
  simp only [Bool.and_eq_true] at hc
  subst hl
  exact wpAnyS_take ho hc.1.1.1.1.1 (fun _ _ _ h => by cases h.1) hc.1.1.2 m listed a w (closed_of hc.2) (Region.free_spec ho hc.1.1.1.1.2) (by simpa using hc.1.1.1.2) hc.1.2 (.inl ⟨hw, fun w hS => by rw [hs]; exact hv w hS⟩) hS (next _ (E.put v hf))
/-- an operation that looks at no memory -/
theorem h_free {F : Act → World → Prop} {m : Nat} {listed listed' : Array Bool} (E : Env a n l) {s : Sem Next} {v : Value} (i : Nat)
    (hr : opAt ops n i l = some (.run d s)) (hv : ∀ w, s.run P w = .ok (.value v) w)
    (hc : (Region.noSelect ops && Region.free .any ops listed i && (Region.ready .any ops listed).contains i && (St.all fun s => s != i)) = true) (hl : listed.setIfInBounds i true = listed') (hS : (St.all fun s => !listed.getD s true) = true → S w)
    (next : ∀ a', Env a' n (putl d v l) → wpAnyS P ops (fun e a w => e = .normal ∧ F a w) S St m listed' a' w) :
    wpAnyS P ops (fun e a w => e = .normal ∧ F a w) S St (m + 1) listed a w := by
  obtain ⟨o, ho, hw, rfl, hs, hf, _⟩ := opAt_run E hr
  simp only [Bool.and_eq_true] at hc
  subst hl
  exact wpAnyS_pure ho hc.1.1.1 (fun _ _ _ h => by cases h.1) hc.2 m listed a w (Region.free_spec ho hc.1.1.2) (by simpa using hc.1.2) (.inl ⟨hw, fun w _ => by rw [hs]; exact hv w⟩) hS (next _ (E.put v hf))
theorem h_skip {F : Act → World → Prop} {m : Nat} {listed listed' : Array Bool} (E : Env a n l) (i : Nat)
    (hr : opAt ops n i l = some (.skip d))
    (hc : (Region.noSelect ops && Region.free .any ops listed i && (Region.ready .any ops listed).contains i && (St.all fun s => s != i)) = true) (hl : listed.setIfInBounds i true = listed') (hS : (St.all fun s => !listed.getD s true) = true → S w)
    (next : ∀ a', Env a' n (putl d undef l) → wpAnyS P ops (fun e a w => e = .normal ∧ F a w) S St m listed' a' w) :
    wpAnyS P ops (fun e a w => e = .normal ∧ F a w) S St (m + 1) listed a w := by
  obtain ⟨o, ho, hw, rfl, hf⟩ := opAt_skip E hr
  simp only [Bool.and_eq_true] at hc
  subst hl
  exact wpAnyS_pure ho hc.1.1.1 (fun _ _ _ h => by cases h.1) hc.2 m listed a w (Region.free_spec ho hc.1.1.2) (by simpa using hc.1.2) (.inr ⟨hw, rfl⟩) hS (next _ (E.put undef hf))
theorem h_ways {m : Nat} {listed : Array Bool} (is : List Nat) (hr : Region.ready .any ops listed = is) (hn : is.isEmpty = false)
    (h : AllWays (fun i => ∀ listed', listed.setIfInBounds i true = listed' → wpOp P ops Q i (fun a' w' => ((St.all fun s => !listed'.getD s true) = true → S w') ∧ wpAnyS P ops Q S St m listed' a' w') a w) is) : wpAnyS P ops Q S St (m + 1) listed a w :=
  ⟨fun h0 => (by rw [hr] at h0; subst h0; cases hn), fun i hi => AllWays.mem h i (hr ▸ hi) _ rfl⟩
theorem h_at {m : Nat} {listed listed' : Array Bool} (i : Nat) (hr : Region.ready .any ops listed = [i]) (hl : listed.setIfInBounds i true = listed')
    (h : wpOp P ops Q i (fun a' w' => ((St.all fun s => !listed'.getD s true) = true → S w') ∧ wpAnyS P ops Q S St m listed' a' w') a w) : wpAnyS P ops Q S St (m + 1) listed a w :=
  h_ways [i] hr rfl ⟨fun _ hl' => by subst hl hl'; exact h, trivial⟩
end
end Go.Dbr

/- Steps over operations without memory, by the slots that are kept. -/


namespace Go.Dbr
open Go Go.RowKit
def keepL (ls : List Nat) (l : List (Nat × Value)) : List (Nat × Value) := ls.filterMap fun i => (look l i).map fun v => (i, v)
theorem look_keep {ls : List Nat} {l : List (Nat × Value)} {t : Nat} {v : Value} (h : look (keepL ls l) t = some v) : look l t = some v := by
  induction ls with
  | nil => cases h
  | cons i r ih =>
    unfold keepL at h ih
    rw [List.filterMap_cons] at h
    cases hx : look l i with
    | none =>
      rw [hx] at h
      exact ih h
    | some u =>
      rw [hx] at h
      simp only [Option.map_some] at h
      by_cases e : i = t
      · subst e
        rw [look_self] at h
        rw [hx, h]
      · rw [look_other _ _ e] at h
        exact ih h
theorem Env.keep {a : Act} {n : Nat} {l : List (Nat × Value)} (E : Env a n l) (ls : List Nat) : Env a n (keepL ls l) := ⟨E.size, E.defers, fun i v h => E.slot i v (look_keep h)⟩
section
variable {P : Program} {ops : Array Oper} {Q : Exit → Act → World → Prop} {n i : Nat} {l : List (Nat × Value)} {a : Act} {w : World}
end
end Go.Dbr

/- Steps that work out by themselves what they can: over any program. -/

namespace Go.Dbr
open Go Go.RowKit

/-! ## values that are told in another form -/
structure FV where
  raw : Value
  fin : Value
  eq : raw = fin
def g_i (k : IntKind) {e z : Int} (h : e = z) : FV := ⟨.int k e, .int k z, by rw [h]⟩
def g_v {u v : Value} (h : u = v) : FV := ⟨u, v, h⟩
theorem w_r {e x : Int} (h : e = x) (h1 : -9223372036854775808 ≤ x := by omega) (h2 : x ≤ 9223372036854775807 := by omega) : IntKind.wrap .i64 e = x := wr64 h h1 h2
theorem w_a (a b : Nat) (h : a + b ≤ 9223372036854775807 := by omega) : IntKind.wrap .i64 (((a : Nat) : Int) + ((b : Nat) : Int)) = ((a + b : Nat) : Int) := wr64 (by omega) (by omega) (by omega)
def g_n {e z : Int} (h : IntKind.wrap .i64 e = z) : FV := ⟨.int .i64 (IntKind.wrap .i64 e), .int .i64 z, by rw [h]⟩

def fvAt : List (Nat × FV) → Nat → Option FV
  | [], _ => none
  | (i, f) :: r, t => bif Nat.beq i t then some f else fvAt r t
def finOf (fs : List (Nat × FV)) (i : Nat) (v : Value) : Value := match fvAt fs i with
  | some f => f.fin
  | none => v
def rawOf (fs : List (Nat × FV)) (i : Nat) (v : Value) : Value := match fvAt fs i with
  | some f => f.raw
  | none => v
theorem raw_fin (fs : List (Nat × FV)) (i : Nat) (v : Value) : rawOf fs i v = finOf fs i v := by
  unfold rawOf finOf
  cases fvAt fs i with
  | none => rfl
  | some f => exact f.eq

section
variable (P : Program) (ops : Array Oper) (n : Nat)
def valAt (l : List (Nat × Value)) (i : Nat) : Value :=
  match opAt ops n i l with
  | some (.run _ s) => match s.run P default with
    | .ok (.value v) _ => v
    | _ => undef
  | _ => undef
def nextL (fs : List (Nat × FV)) (l : List (Nat × Value)) (i : Nat) : List (Nat × Value) :=
  match opAt ops n i l with
  | some (.run d _) => putl d (finOf fs i (valAt P ops n l i)) l
  | some (.skip d) => putl d undef l
  | none => l
def resA (w : World) (l : List (Nat × Value)) (i : Nat) : Option (Result Next) :=
  match opAt ops n i l with
  | some (.run _ s) => some (s.run P w)
  | some (.skip _) => some (.ok (.value undef) w)
  | none => none
def expA (fs : List (Nat × FV)) (w : World) (l : List (Nat × Value)) (i : Nat) : Option (Result Next) := some (.ok (.value (rawOf fs i (valAt P ops n l i))) w)
def resL (fs : List (Nat × FV)) (w : World) : List (Nat × Value) → Nat → Nat → List (Option (Result Next))
  | _, _, 0 => []
  | l, i, m + 1 => resA P ops n w l i :: resL fs w (nextL P ops n fs l i) (i + 1) m
def expL (fs : List (Nat × FV)) (w : World) : List (Nat × Value) → Nat → Nat → List (Option (Result Next))
  | _, _, 0 => []
  | l, i, m + 1 => expA P ops n fs w l i :: expL fs w (nextL P ops n fs l i) (i + 1) m
def endL (fs : List (Nat × FV)) : List (Nat × Value) → Nat → Nat → List (Nat × Value)
  | l, _, 0 => l
  | l, i, m + 1 => endL fs (nextL P ops n fs l i) (i + 1) m
end

section
variable {P : Program} {ops : Array Oper} {Q : Exit → Act → World → Prop} {n i : Nat} {l : List (Nat × Value)} {a : Act} {w w0 : World} {d : Option Tmp} {L L0 : List Ent} {K : Act → World → Prop}

theorem dense_go (fs : List (Nat × FV)) : ∀ (m i : Nat) (l : List (Nat × Value)) (a : Act), Env a n l → resL P ops n fs w l i m = expL P ops n fs w l i m →
    (∀ a', Env a' n (endL P ops n fs l i m) → From P ops Q (i + m) a' w) → From P ops Q i a w
  | 0, i, l, a, E, _, next => next a E
  | m + 1, i, l, a, E, h, next => by
    simp only [resL, expL, List.cons.injEq] at h
    obtain ⟨h1, h2⟩ := h
    have go : ∀ a', Env a' n (nextL P ops n fs l i) → From P ops Q (i + 1) a' w := fun a' E' => dense_go fs m (i + 1) _ a' E' h2 fun a'' E'' => by
      have := next a'' E''
      rwa [show i + (m + 1) = i + 1 + m by omega] at this
    unfold resA expA at h1
    unfold nextL at go
    cases ho : opAt ops n i l with
    | none => simp [ho] at h1
    | some x =>
      cases x with
      | run d s =>
        simp only [ho, Option.some.injEq] at h1 go
        rw [raw_fin] at h1
        exact step_run E ho h1 go
      | skip d =>
        simp only [ho] at go
        exact step_skip E ho go

/-- some operations without memory -/
theorem d_k (ls : List Nat) (fs : List (Nat × FV)) (k : Nat) (E : Env a n l) (next : ∀ a', Env a' n (keepL ls (endL P ops n fs l i (k - i))) → From P ops Q k a' w)
    (h : (fun w => resL P ops n fs w l i (k - i)) = fun w => expL P ops n fs w l i (k - i) := by kernel_rfl) (hk : i + (k - i) = k := by kernel_rfl) : From P ops Q i a w :=
  dense_go fs (k - i) i l a E (congrFun h w) fun a' E' => by rw [hk]; exact next a' (E'.keep ls)
/-- .. up to the region's end -/
theorem d_e (ls : List Nat) (fs : List (Nat × FV)) (E : Env a n l) (next : ∀ a', Env a' n (keepL ls (endL P ops n fs l i (ops.size - i))) → Q .normal a' w)
    (h : (fun w => resL P ops n fs w l i (ops.size - i)) = fun w => expL P ops n fs w l i (ops.size - i) := by kernel_rfl) (hk : i + (ops.size - i) = ops.size := by kernel_rfl) : From P ops Q i a w :=
  dense_go fs (ops.size - i) i l a E (congrFun h w) fun a' E' => from_end hk.symm (next a' (E'.keep ls))
/-- a whole region -/
theorem d_r {id : Nat} (ls : List Nat) (fs : List (Nat × FV)) (E : Env a n l) (next : ∀ a', Env a' n (keepL ls (endL P ops n fs l 0 (ops.size - 0))) → Q .normal a' w)
    (h : (fun w => resL P ops n fs w l 0 (ops.size - 0)) = fun w => expL P ops n fs w l 0 (ops.size - 0) := by kernel_rfl) : (Code.region id ops false).wp P Q a w :=
  region_from (d_e ls fs E next h (by omega))
theorem d_s {id : Nat} {y : Code} (ls : List Nat) (fs : List (Nat × FV)) (E : Env a n l) (next : ∀ a', Env a' n (keepL ls (endL P ops n fs l 0 (ops.size - 0))) → y.wp P Q a' w)
    (h : (fun w => resL P ops n fs w l 0 (ops.size - 0)) = fun w => expL P ops n fs w l 0 (ops.size - 0) := by kernel_rfl) : (Code.seq (Code.region id ops false) y).wp P Q a w :=
  wp_seq (d_r ls fs E next h)
theorem f_o (h : wpOp P ops Q i (From P ops Q (i + 1)) a w) (hi : Nat.blt i ops.size = true := by kernel_rfl) : From P ops Q i a w := from_op hi h
theorem f_e (h : Q .normal a w) (hs : ops.size = i := by kernel_rfl) : From P ops Q i a w := from_end hs h

/-- a slot is told in another form -/
theorem Env.fx {t : Nat} {v u : Value} (E : Env a n l) (hv : v = u) (h : look l t = some v := by kernel_rfl) : Env a n ((t, u) :: l) := by
  subst hv
  refine ⟨E.size, E.defers, fun i x hx => ?_⟩
  by_cases e : t = i
  · subst e
    rw [look_self] at hx
    rw [← hx]
    exact E.slot t v h
  · rw [look_other _ _ e] at hx
    exact E.slot i x hx
theorem Env.sb {l' : List (Nat × Value)} (E : Env a n l) (h : l'.map (fun p => look l p.1) = l'.map (fun p => some p.2) := by kernel_rfl) : Env a n l' := E.sub h
def nodupB : List Nat → Bool
  | [] => true
  | i :: r => !r.contains i && nodupB r
theorem nodup_of : ∀ {l : List Nat}, nodupB l = true → l.Nodup
  | [], _ => List.nodup_nil
  | i :: r, h => by
    simp only [nodupB, Bool.and_eq_true, Bool.not_eq_true'] at h
    refine List.nodup_cons.2 ⟨fun hm => ?_, nodup_of h.2⟩
    have := List.contains_iff_mem.2 hm
    rw [h.1] at this
    cases this
/-! ## conditions -/
theorem c_d {c : Nat} {x y : Code} (p : Prop) [Decidable p] (E : Env a n l) (ht : p → x.wp P Q a w) (hf : ¬ p → y.wp P Q a w) (hc : look l c = some (.bool (decide p)) := by kernel_rfl) : (Code.cond (.tmp c) x y).wp P Q a w :=
  cond_at E hc (fun h => ht (of_decide_eq_true h)) (fun h => hf (of_decide_eq_false h))
theorem c_e {c : Nat} {x y : Code} (u v : Int) (E : Env a n l) (ht : u = v → x.wp P Q a w) (hf : ¬ u = v → y.wp P Q a w) (hc : look l c = some (.bool (u == v)) := by kernel_rfl) : (Code.cond (.tmp c) x y).wp P Q a w :=
  cond_at E hc (fun h => ht (eq_of_beq h)) (fun h => hf (ne_of_beq_false h))
theorem c_n {c : Nat} {x y : Code} (u v : Int) (E : Env a n l) (ht : ¬ u = v → x.wp P Q a w) (hf : u = v → y.wp P Q a w) (hc : look l c = some (.bool (u != v)) := by kernel_rfl) : (Code.cond (.tmp c) x y).wp P Q a w :=
  cond_at E hc (fun h => ht (by simpa using h)) (fun h => hf (by simpa using h))
theorem c_t {c : Nat} {x y : Code} (E : Env a n l) (h : x.wp P Q a w) (hc : look l c = some (.bool true) := by kernel_rfl) : (Code.cond (.tmp c) x y).wp P Q a w := cond_true E hc rfl h
theorem c_f {c : Nat} {x y : Code} (E : Env a n l) (h : y.wp P Q a w) (hc : look l c = some (.bool false) := by kernel_rfl) : (Code.cond (.tmp c) x y).wp P Q a w := cond_false E hc rfl h

/-! ## memory -/
def opD (ops : Array Oper) (i : Nat) : Option Tmp := match ops[i]? with
  | some o => o.dst
  | none => none
def opTy (ops : Array Oper) (i : Nat) : TypeId := match ops[i]? with
  | some o => match o.op with
    | .load t _ => t
    | .store t _ _ => t
    | .alloc t => t
    | .box t _ => t
    | _ => 0
  | none => 0
def opV (ops : Array Oper) (l : List (Nat × Value)) (i k : Nat) : Value := match ops[i]? with
  | some o => val l (o.op.operands.getD k (.const undef))
  | none => undef
def adV : Value → Addr
  | .pointer (some a) => a
  | _ => ⟨0, 0, none⟩
def offV (v : Value) : Nat := (adV v).off
def boxB (L : List Ent) (k : Nat) : Nat := match L[k]? with
  | some (.box b _ _) => b
  | _ => 0
def boxC (L : List Ent) (k : Nat) : List Value := match L[k]? with
  | some (.box _ cs _) => cs
  | _ => []
def boxT (L : List Ent) (k : Nat) : TypeId := match L[k]? with
  | some (.box _ _ T) => T
  | _ => 0
def cellV (L : List Ent) (k off : Nat) : Value := match (boxC L k)[off]? with
  | some v => v
  | none => undef
/-- a load of a cell -/
theorem m_l (k : Nat) (E : Env a n l) (H : Ev w0 L0 w L) (next : ∀ a', Env a' n (putl (opD ops i) (cellV L k (offV (opV ops l i 0))) l) → K a' w)
    (h : opAt ops n i l = some (.run (opD ops i) (nv (Instr.loadAt (opTy ops i) (.pointer (some ⟨boxB L k, offV (opV ops l i 0), none⟩))))) := by kernel_rfl)
    (hk : L[k]? = some (.box (boxB L k) (boxC L k) (boxT L k)) := by kernel_rfl) (hv : (boxC L k)[offV (opV ops l i 0)]? = some (cellV L k (offV (opV ops l i 0))) := by kernel_rfl)
    (ht : (fun w => (isAgg (opTy ops i)).run P w) = fun w => .ok false w := by kernel_rfl) : wpOp P ops Q i K a w := op_loadbox E h H hk hv ht next
/-- .. of a cell whose value is told -/
theorem m_v (k off : Nat) (v : Value) (E : Env a n l) (H : Ev w0 L0 w L) {b : Nat} {cs : List Value} {T : TypeId} (hk : L[k]? = some (.box b cs T)) (hv : cs[off]? = some v) (next : ∀ a', Env a' n (putl (opD ops i) v l) → K a' w)
    (h : opAt ops n i l = some (.run (opD ops i) (nv (Instr.loadAt (opTy ops i) (.pointer (some ⟨b, off, none⟩))))) := by kernel_rfl)
    (ht : (fun w => (isAgg (opTy ops i)).run P w) = fun w => .ok false w := by kernel_rfl) : wpOp P ops Q i K a w := op_loadbox E h H hk hv ht next
/-- a load of several cells -/
theorem m_a (k off m : Nat) (xs : List Value) (E : Env a n l) (H : Ev w0 L0 w L) {b : Nat} {cs : List Value} {T : TypeId} (hk : L[k]? = some (.box b cs T)) (hx : (cs.drop off).take m = xs) (hm : xs.length = m) (next : ∀ a', Env a' n (putl (opD ops i) (.agg xs.toArray) l) → K a' w)
    (h : opAt ops n i l = some (.run (opD ops i) (nv (Instr.loadAt (opTy ops i) (.pointer (some ⟨b, off, none⟩))))) := by kernel_rfl)
    (ht : (fun w => (isAgg (opTy ops i)).run P w) = fun w => .ok true w := by kernel_rfl) (hs : (fun w => (sizeOf (opTy ops i)).run P w) = fun w => .ok m w := by kernel_rfl) : wpOp P ops Q i K a w := op_loadaggbox E h H hk hx hm ht hs next
/-- a store of a cell -/
theorem m_s (k : Nat) (L' : List Ent) (E : Env a n l) (H : Ev w0 L0 w L) (next : ∀ a' w', Env a' n (putl (opD ops i) undef l) → Ev w0 L0 w' L' → K a' w')
    (h : opAt ops n i l = some (.run (opD ops i) (nu (Instr.storeAt (opTy ops i) (.pointer (some ⟨boxB L k, offV (opV ops l i 0), none⟩)) (opV ops l i 1)))) := by kernel_rfl)
    (hk : L[k]? = some (.box (boxB L k) (boxC L k) (boxT L k)) := by kernel_rfl) (ho : (boxC L k)[offV (opV ops l i 0)]? = some (cellV L k (offV (opV ops l i 0))) := by kernel_rfl)
    (hs : (fun w => (sizeOf (opTy ops i)).run P w) = fun w => .ok 1 w := by kernel_rfl) (hv : (opV ops l i 1).oneCell' = true := by kernel_rfl)
    (hL : L.set k (.box (boxB L k) ((boxC L k).set (offV (opV ops l i 0)) (opV ops l i 1)) (boxT L k)) = L' := by kernel_rfl) : wpOp P ops Q i K a w := op_storebox E h H hk ho hs hv hL next
/-- a store of several cells -/
theorem m_g (k off m : Nat) (xs cs' : List Value) (L' : List Ent) (E : Env a n l) (H : Ev w0 L0 w L) {b : Nat} {cs : List Value} {T : TypeId} (hk : L[k]? = some (.box b cs T)) (hm : xs.length = m) (hl : off + m ≤ cs.length) (h1 : ∀ u ∈ xs, u.oneCell' = true) (hc : cs.take off ++ xs ++ cs.drop (off + m) = cs') (hL : L.set k (.box b cs' T) = L')
    (next : ∀ a' w', Env a' n (putl (opD ops i) undef l) → Ev w0 L0 w' L' → K a' w')
    (h : opAt ops n i l = some (.run (opD ops i) (nu (Instr.storeAt (opTy ops i) (.pointer (some ⟨b, off, none⟩)) (opV ops l i 1)))) := by kernel_rfl)
    (hv : (opV ops l i 1).cells = xs.toArray := by kernel_rfl)
    (hs : (fun w => (sizeOf (opTy ops i)).run P w) = fun w => .ok m w := by kernel_rfl) : wpOp P ops Q i K a w := op_storeaggbox E h H hk hv hm hl hs h1 hc hL next
/-- a new variable, its cells told -/
theorem m_m (T : TypeId) (cs : List Value) (E : Env a n l) (H : Ev w0 L0 w L) (next : ∀ a' w' b, Env a' n (putl (opD ops i) (.pointer (some ⟨b, 0, none⟩)) l) → Ev w0 L0 w' (L ++ [.box b cs T]) → K a' w')
    (h : opAt ops n i l = some (.run (opD ops i) (nv (Instr.box T (opV ops l i 0)))) := by kernel_rfl) (hc : (opV ops l i 0).cells.toList = cs := by kernel_rfl) : wpOp P ops Q i K a w := op_newbox E h hc H next
def zeroV (P : Program) (t : TypeId) : Value := match (zeroValue t).run P default with
  | .ok v _ => v
  | _ => undef
/-- a variable whose address is taken -/
theorem m_z (T : TypeId) (cs : List Value) (E : Env a n l) (H : Ev w0 L0 w L) (next : ∀ a' w' b, Env a' n (putl (opD ops i) (.pointer (some ⟨b, 0, none⟩)) l) → Ev w0 L0 w' (L ++ [.box b cs T]) → K a' w')
    (h : opAt ops n i l = some (.run (opD ops i) (nv (Instr.alloc T true (.tuple #[])))) := by kernel_rfl) (hz : (fun w => (zeroValue T).run P w) = fun w => .ok (zeroV P T) w := by kernel_rfl)
    (hc : (zeroV P T).cells.toList = cs := by kernel_rfl) : wpOp P ops Q i K a w := op_alloc E h hz hc H next

/-! ## calls -/
def restI (is : List Nat) (m : Nat) : List Nat := (List.range m).filter fun i => !is.contains i
def restE (L : List Ent) (is : List Nat) : List Ent := (restI is L.length).filterMap fun i => L[i]?
theorem rest_map {L : List Ent} : ∀ {js : List Nat}, (∀ j ∈ js, j < L.length) → (js.filterMap fun i => L[i]?).map some = js.map fun i => L[i]?
  | [], _ => rfl
  | j :: r, h => by
    have hj := h j (by simp)
    rw [List.filterMap_cons, List.getElem?_eq_getElem hj]
    simp only [List.map_cons]
    rw [rest_map fun k hk => h k (by simp [hk]), List.getElem?_eq_getElem hj]
theorem restI_nodup {is : List Nat} (h : is.Nodup) (m : Nat) : (is ++ restI is m).Nodup := by
  rw [List.nodup_append]
  refine ⟨h, (List.nodup_range).filter _, fun a ha b hb e => ?_⟩
  subst e
  have := (List.mem_filter.1 hb).2
  simp only [Bool.not_eq_true'] at this
  have h2 := List.contains_iff_mem.2 ha
  rw [this] at h2
  cases h2
/-- entries 'is' go along -/
theorem c_l (is : List Nat) {f : FuncId} {args : Array Value} {M : List Ent} {post : Ending → World → Prop} (E : Env a n l) (H : Ev w0 L0 w L) (hc : Heap w M → Calls P f args w post)
    (next : ∀ e w', post e w' → ∃ v M' L', e = .returned v ∧ Ev w M w' M' ∧ M' ++ restE L is = L' ∧ ∀ a', Env a' n (putl (opD ops i) v l) → Ev w0 L0 w' L' → K a' w')
    (h : opRuns P ops n i l = some (opD ops i, fun w => .ok (.enter f args) w) := by kernel_rfl) (hm : M.map some = is.map (fun i => L[i]?) := by kernel_rfl) (nd : nodupB is = true := by kernel_rfl) : wpOp P ops Q i K a w := by
  refine op_call E h ((hc (H.heap.pick is hm (nodup_of nd))).mono fun e w' he => ?_)
  obtain ⟨v, M', L', he1, he2, rfl, hn⟩ := next e w' he
  refine ⟨v, he1, fun a' E' => hn a' E' (H.trans (Ev.call H.heap (is ++ restI is L.length) ?_ (restI_nodup (nodup_of nd) _) he2))⟩
  rw [List.map_append, List.map_append, hm]
  congr 1
  exact rest_map fun j hj => List.mem_range.1 (List.mem_filter.1 hj).1
/-- nothing goes along -/
theorem c_0 {f : FuncId} {args : Array Value} {post : Ending → World → Prop} (E : Env a n l) (H : Ev w0 L0 w L) (hc : Calls P f args w post)
    (next : ∀ e w', post e w' → ∃ v M' L', e = .returned v ∧ Ev w [] w' M' ∧ M' ++ L = L' ∧ ∀ a', Env a' n (putl (opD ops i) v l) → Ev w0 L0 w' L' → K a' w')
    (h : opRuns P ops n i l = some (opD ops i, fun w => .ok (.enter f args) w) := by kernel_rfl) : wpOp P ops Q i K a w := by
  refine op_call E h (hc.mono fun e w' he => ?_)
  obtain ⟨v, M', L', he1, he2, rfl, hn⟩ := next e w' he
  exact ⟨v, he1, fun a' E' => hn a' E' (H.trans (Ev.frame (R := L) (L := []) H.heap he2))⟩

/-- a function that changes nothing -/
theorem c_p {f : FuncId} {args : Array Value} {v : Value} (E : Env a n l) (H : Ev w0 L0 w L) (hc : Calls P f args w fun e w' => e = .returned v ∧ Ev w [] w' [])
    (next : ∀ a' w', Env a' n (putl (opD ops i) v l) → Ev w0 L0 w' L → K a' w')
    (h : opRuns P ops n i l = some (opD ops i, fun w => .ok (.enter f args) w) := by kernel_rfl) : wpOp P ops Q i K a w :=
  c_0 E H hc (fun _ w' ⟨he1, he2⟩ => ⟨v, [], L, he1, he2, rfl, fun a' E' H' => next a' w' E' H'⟩) h
/-- the start of a function -/
theorem d_0 {P : Program} {f : FuncId} {args : Array Value} {R : Ending → World → Prop} {w : World} {L : List Ent} (l : List (Nat × Value)) (n : Nat) {fn : Func} {c : Code} (hf : P.funcs[f]? = some fn) (hn : fn.ntmps = n) (hH : Heap w L)
    (h : ∀ a, Env a n l → Ev w L w L → c.wp P (bodyPost P fn R) a w) (hb : fn.body = some c := by rfl) (hs : Nat.ble args.size n = true := by kernel_rfl) (hl : l.map (fun p => args[p.1]?) = l.map (fun p => some p.2) := by kernel_rfl) : Calls P f args w R :=
  d_start l n hf hn hb hs hl fun a E => h a E (Ev.refl hH)

/-! ## regions whose order is drawn -/
section
variable {S : World → Prop} {St : List Nat}
def condL (ops : Array Oper) (St : List Nat) : List Nat → Array Bool → Bool
  | [], _ => true
  | i :: r, listed => (Region.noSelect ops && Region.free .any ops listed i && (Region.ready .any ops listed).contains i && (St.all fun s => s != i)) && condL ops St r (listed.setIfInBounds i true)
def doneL : List Nat → Array Bool → Array Bool
  | [], listed => listed
  | i :: r, listed => doneL r (listed.setIfInBounds i true)
def resI (P : Program) (ops : Array Oper) (n : Nat) (fs : List (Nat × FV)) (w : World) : List (Nat × Value) → List Nat → List (Option (Result Next))
  | _, [] => []
  | l, i :: r => resA P ops n w l i :: resI P ops n fs w (nextL P ops n fs l i) r
def expI (P : Program) (ops : Array Oper) (n : Nat) (fs : List (Nat × FV)) (w : World) : List (Nat × Value) → List Nat → List (Option (Result Next))
  | _, [] => []
  | l, i :: r => expA P ops n fs w l i :: expI P ops n fs w (nextL P ops n fs l i) r
def endI (P : Program) (ops : Array Oper) (n : Nat) (fs : List (Nat × FV)) : List (Nat × Value) → List Nat → List (Nat × Value)
  | l, [] => l
  | l, i :: r => endI P ops n fs (nextL P ops n fs l i) r
theorem hs_go {F : Act → World → Prop} (fs : List (Nat × FV)) (hS : S w) : ∀ (is : List Nat) (m : Nat) (l : List (Nat × Value)) (listed : Array Bool) (a : Act), Env a n l → (fun w => resI P ops n fs w l is) = (fun w => expI P ops n fs w l is) → condL ops St is listed = true →
    (∀ a', Env a' n (endI P ops n fs l is) → wpAnyS P ops (HQ F) S St m (doneL is listed) a' w) → wpAnyS P ops (HQ F) S St (m + is.length) listed a w
  | [], m, l, listed, a, E, _, _, next => next a E
  | i :: r, m, l, listed, a, E, h, hc, next => by
    have h1 : ∀ w, resA P ops n w l i = expA P ops n fs w l i := fun w => (List.cons.inj (congrFun h w)).1
    have h2 : (fun w => resI P ops n fs w (nextL P ops n fs l i) r) = fun w => expI P ops n fs w (nextL P ops n fs l i) r := funext fun w => (List.cons.inj (congrFun h w)).2
    have hc1 : (Region.noSelect ops && Region.free .any ops listed i && (Region.ready .any ops listed).contains i && (St.all fun s => s != i)) = true ∧ condL ops St r (listed.setIfInBounds i true) = true := (Bool.and_eq_true _ _).mp hc
    have go : ∀ a', Env a' n (nextL P ops n fs l i) → wpAnyS P ops (HQ F) S St (m + r.length) (listed.setIfInBounds i true) a' w := fun a' E' => hs_go fs hS r m _ _ a' E' h2 hc1.2 next
    show wpAnyS P ops (HQ F) S St (m + r.length + 1) listed a w
    unfold resA expA at h1
    unfold nextL at go
    cases ho : opAt ops n i l with
    | none => have := h1 w; simp [ho] at this
    | some x =>
      cases x with
      | run d s =>
        simp only [ho, Option.some.injEq] at h1 go
        rw [raw_fin] at h1
        exact h_free E i ho h1 hc1.1 rfl (fun _ => hS) go
      | skip d =>
        simp only [ho] at go
        exact h_skip E i ho hc1.1 rfl (fun _ => hS) go
/-- operations without memory, one behind the other; what is held still stands -/
theorem q_s {F : Act → World → Prop} {m : Nat} {listed : Array Bool} (is : List Nat) (fs : List (Nat × FV)) (m' : Nat) (E : Env a n l) (hS : S w) (next : ∀ a', Env a' n (endI P ops n fs l is) → wpAnyS P ops (HQ F) S St m' (doneL is listed) a' w)
    (h : (fun w => resI P ops n fs w l is) = (fun w => expI P ops n fs w l is) := by kernel_rfl) (hc : condL ops St is listed = true := by kernel_rfl) (hm : m = m' + is.length := by kernel_rfl) : wpAnyS P ops (HQ F) S St m listed a w := by
  subst hm
  exact hs_go fs hS is m' l listed a E h hc next
theorem any_go {F : Act → World → Prop} (fs : List (Nat × FV)) : ∀ (is : List Nat) (m : Nat) (l : List (Nat × Value)) (listed : Array Bool) (a : Act), Env a n l → (fun w => resI P ops n fs w l is) = (fun w => expI P ops n fs w l is) → condL ops [] is listed = true →
    (∀ a', Env a' n (endI P ops n fs l is) → wpAny P .any ops (HQ F) m (doneL is listed) a' w) → wpAny P .any ops (HQ F) (m + is.length) listed a w
  | [], m, l, listed, a, E, _, _, next => next a E
  | i :: r, m, l, listed, a, E, h, hc, next => by
    have h1 : ∀ w, resA P ops n w l i = expA P ops n fs w l i := fun w => (List.cons.inj (congrFun h w)).1
    have h2 : (fun w => resI P ops n fs w (nextL P ops n fs l i) r) = fun w => expI P ops n fs w (nextL P ops n fs l i) r := funext fun w => (List.cons.inj (congrFun h w)).2
    have hc1 : (Region.noSelect ops && Region.free .any ops listed i && (Region.ready .any ops listed).contains i && (([] : List Nat).all fun s => s != i)) = true ∧ condL ops [] r (listed.setIfInBounds i true) = true := (Bool.and_eq_true _ _).mp hc
    have hc2 : (Region.noSelect ops && Region.free .any ops listed i && (Region.ready .any ops listed).contains i) = true := ((Bool.and_eq_true _ _).mp hc1.1).1
    have go : ∀ a', Env a' n (nextL P ops n fs l i) → wpAny P .any ops (HQ F) (m + r.length) (listed.setIfInBounds i true) a' w := fun a' E' => any_go fs r m _ _ a' E' h2 hc1.2 next
    show wpAny P .any ops (HQ F) (m + r.length + 1) listed a w
    unfold resA expA at h1
    unfold nextL at go
    cases ho : opAt ops n i l with
    | none => have := h1 w; simp [ho] at this
    | some x =>
      cases x with
      | run d s =>
        simp only [ho, Option.some.injEq] at h1 go
        rw [raw_fin] at h1
        exact any_pure E i ho (funext h1) hc2 rfl go
      | skip d =>
        simp only [ho] at go
        exact any_skip E i ho hc2 rfl go
theorem q_a {F : Act → World → Prop} {m : Nat} {listed : Array Bool} (is : List Nat) (fs : List (Nat × FV)) (m' : Nat) (E : Env a n l) (next : ∀ a', Env a' n (endI P ops n fs l is) → wpAny P .any ops (HQ F) m' (doneL is listed) a' w)
    (h : (fun w => resI P ops n fs w l is) = (fun w => expI P ops n fs w l is) := by kernel_rfl) (hc : condL ops [] is listed = true := by kernel_rfl) (hm : m = m' + is.length := by kernel_rfl) : wpAny P .any ops (HQ F) m listed a w := by
  subst hm
  exact any_go fs is m' l listed a E h hc next
/-- a load of a cell of what is held -/
theorem q_l {F : Act → World → Prop} {Lh : List Ent} {m : Nat} {listed : Array Bool} (k i : Nat) (E : Env a n l) (hS : Ev w0 L0 w Lh)
    (next : ∀ a', Env a' n (putl (opD ops i) (cellV Lh k (offV (opV ops l i 0))) l) → wpAnyS P ops (HQ F) (fun wv => Ev w0 L0 wv Lh) St m (listed.setIfInBounds i true) a' w)
    (h : opAt ops n i l = some (.run (opD ops i) (nv (Instr.loadAt (opTy ops i) (.pointer (some ⟨boxB Lh k, offV (opV ops l i 0), none⟩))))) := by kernel_rfl)
    (hk : Lh[k]? = some (.box (boxB Lh k) (boxC Lh k) (boxT Lh k)) := by kernel_rfl) (hv : (boxC Lh k)[offV (opV ops l i 0)]? = some (cellV Lh k (offV (opV ops l i 0))) := by kernel_rfl)
    (ht : (fun w => (isAgg (opTy ops i)).run P w) = fun w => .ok false w := by kernel_rfl)
    (hc : (Region.noSelect ops && Region.free .any ops listed i && (Region.ready .any ops listed).contains i && (St.all fun s => waits ops i s && s != i) && (St.all fun s => !listed.getD s true) && closedB ops listed) = true := by kernel_rfl) :
    wpAnyS P ops (HQ F) (fun wv => Ev w0 L0 wv Lh) St (m + 1) listed a w :=
  h_read E i h (fun _ hS => run_nv (run_load1 ht (hS.heap.cell hk hv))) hc rfl hS next
theorem q_g {F : Act → World → Prop} {m : Nat} {listed : Array Bool} (i : Nat) {s : Sem Value} {v : Value} (E : Env a n l) (hv : ∀ w, s.run P w = .ok v w)
    (next : ∀ a', Env a' n (putl (opD ops i) v l) → wpAny P .any ops (HQ F) m (listed.setIfInBounds i true) a' w)
    (hr : opAt ops n i l = some (.run (opD ops i) (nv s)) := by kernel_rfl)
    (hc : (Region.noSelect ops && Region.free .any ops listed i && (Region.ready .any ops listed).contains i) = true := by kernel_rfl) :
    wpAny P .any ops (HQ F) (m + 1) listed a w :=
  any_pure E i hr (funext fun w => run_nv (hv w)) hc rfl next
theorem q_t {m : Nat} {listed : Array Bool} (i : Nat) (h : wpOp P ops Q i (fun a' w' => ((St.all fun s => !(listed.setIfInBounds i true).getD s true) = true → S w') ∧ wpAnyS P ops Q S St m (listed.setIfInBounds i true) a' w') a w)
    (hr : Region.ready .any ops listed = [i] := by kernel_rfl) : wpAnyS P ops Q S St (m + 1) listed a w := h_at i hr rfl h
theorem q_u {m : Nat} {listed : Array Bool} (i : Nat) (h : wpOp P ops Q i (wpAny P .any ops Q m (listed.setIfInBounds i true)) a w) (hr : Region.ready .any ops listed = [i] := by kernel_rfl) : wpAny P .any ops Q (m + 1) listed a w := any_at i hr rfl h
theorem h_s {F : Act → World → Prop} {id : Nat} (S : World → Prop) (St : List Nat) (m : Nat) (h : wpAnyS P ops (HQ F) S St m (Array.replicate m false) a w.drew) (hm : P.follows .mixedOrders = true := by kernel_rfl) (hs : ops.size = m := by kernel_rfl) : (Code.region id ops true).wp P (HQ F) a w := h_start S St hm m hs h
theorem h_e {F : Act → World → Prop} {m : Nat} {listed : Array Bool} (h : F a w) (hr : Region.ready .any ops listed = [] := by kernel_rfl) : wpAnyS P ops (HQ F) S St m listed a w := h_end hr h
theorem a_e {F : Act → World → Prop} {m : Nat} {listed : Array Bool} (h : F a w) (hr : Region.ready .any ops listed = [] := by kernel_rfl) : wpAny P .any ops (HQ F) m listed a w := any_end hr h
theorem r_c {c : Code} (F : Act → World → Prop) (h : c.wp P (HQ F) a w) (next : ∀ a' w', F a' w' → Q .normal a' w') : c.wp P Q a w := region_cut h next
theorem q_y {b : Bool} {p : Prop} (h : b = false := by kernel_rfl) : b = true → p := not_yet h
theorem q_v {x : Sem Value} {v : Value} (E : Env a n l) (hr : x.run P w = .ok v w) (next : ∀ a', Env a' n (putl (opD ops i) v l) → K a' w) (h : opAt ops n i l = some (.run (opD ops i) (nv x)) := by kernel_rfl) : wpOp P ops Q i K a w := op_val E h hr next
end
end
end Go.Dbr

/- Long drawn regions: that the operations don't disturb each other is checked once. -/

namespace Go.Dbr
open Go Go.RowKit
set_option linter.unusedSimpArgs false

def nodupO : List Oper → Nat → Bool
  | [], _ => true
  | o :: r, m => match o.dst with
    | some d => !Nat.testBit m d && nodupO r (m ||| 2 ^ d)
    | none => nodupO r m
theorem nodupO_spec : ∀ (l : List Oper) (m : Nat), nodupO l m = true → (∀ (i : Nat) (o : Oper) (d : Nat), l[i]? = some o → o.dst = some d → Nat.testBit m d = false) ∧ (∀ (i j : Nat) (o q : Oper) (d : Nat), l[i]? = some o → l[j]? = some q → o.dst = some d → q.dst = some d → i = j)
  | [], m, _ => ⟨fun i o d h => by simp at h, fun i j o q d h => by simp at h⟩
  | x :: r, m, h => by
    unfold nodupO at h
    cases hd : x.dst with
    | none =>
      rw [hd] at h
      obtain ⟨h1, h2⟩ := nodupO_spec r m h
      constructor
      · intro i o d hi ho
        cases i with
        | zero => simp at hi; subst hi; rw [hd] at ho; cases ho
        | succ i => exact h1 i o d (by simpa using hi) ho
      · intro i j o q d hi hj ho hq
        cases i with
        | zero => simp at hi; subst hi; rw [hd] at ho; cases ho
        | succ i =>
          cases j with
          | zero => simp at hj; subst hj; rw [hd] at hq; cases hq
          | succ j => rw [h2 i j o q d (by simpa using hi) (by simpa using hj) ho hq]
    | some c =>
      rw [hd] at h
      simp only [Bool.and_eq_true, Bool.not_eq_true'] at h
      obtain ⟨h1, h2⟩ := nodupO_spec r _ h.2
      have key : ∀ (i : Nat) (o : Oper) (d : Nat), r[i]? = some o → o.dst = some d → Nat.testBit m d = false ∧ c ≠ d := fun i o d hi ho => by
        have := h1 i o d hi ho
        rw [Nat.testBit_or, Bool.or_eq_false_iff] at this
        refine ⟨this.1, fun e => ?_⟩
        subst e
        rw [Nat.testBit_two_pow_self] at this
        cases this.2
      constructor
      · intro i o d hi ho
        cases i with
        | zero => simp at hi; subst hi; rw [hd] at ho; cases ho; exact h.1
        | succ i => exact (key i o d (by simpa using hi) ho).1
      · intro i j o q d hi hj ho hq
        cases i with
        | zero =>
          cases j with
          | zero => rfl
          | succ j => simp at hi; subst hi; rw [hd] at ho; cases ho; exact absurd rfl (key j q _ (by simpa using hj) hq).2
        | succ i =>
          cases j with
          | zero => simp at hj; subst hj; rw [hd] at hq; cases hq; exact absurd rfl (key i o _ (by simpa using hi) ho).2
          | succ j => rw [h2 i j o q d (by simpa using hi) (by simpa using hj) ho hq]
section
variable {P : Program} {ops : Array Oper} {Q : Exit → Act → World → Prop} {S : World → Prop} {n i : Nat} {l : List (Nat × Value)} {a : Act} {w : World}
end
end Go.Dbr
