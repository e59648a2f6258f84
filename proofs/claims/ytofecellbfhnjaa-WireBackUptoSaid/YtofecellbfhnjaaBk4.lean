import Derived.Test.YtofecellbfhnjaaBk3
import Derived.Test.YtofecellbfhnjaaRows
import Derived.Deep.Slices
import Derived.ChangeArms
/- What is handed in to a law, of any shape that is read alone: numbers, texts, structs, arrays, slices of them. -/




namespace Go.Dbr
open Go Go.RowKit Go.ChangeShapes Go.WideShapes Go.ChangeAt

structure Sl (α : Type) where
  a : Option Addr
  c : Nat
  l : List α
def Sl.val {α : Type} (s : Sl α) : Value := .slice s.a s.l.length s.c
def Sl.f {α : Type} (s : Sl α) : List Value := [.slice s.a s.l.length s.c]

/-- a slice that is read alone, its elements of sz cells each -/
structure InS {α : Type} (f : α → List Value) (by_ : Nat) (ok : α → Prop) (w : World) (L : List Ent) (a : Option Addr) (c : Nat) (l : List α) : Prop where
  ro : Ro w L a (l.flatMap f)
  nz : a = none → l.length = 0
  cap : l.length ≤ c
  small : l.length * by_ ≤ 140737488351232
  each : ∀ x ∈ l, ok x

theorem InS.ev {α : Type} {f : α → List Value} {b : Nat} {ok ok' : α → Prop} {w w' : World} {L L' : List Ent} {a : Option Addr} {c : Nat} {l : List α} (h : InS f b ok w L a c l) (e : Ev w L w' L') (ho : ∀ x, ok x → ok' x) : InS f b ok' w' L' a c l := ⟨h.ro.ev e, h.nz, h.cap, h.small, fun x hx => ho x (h.each x hx)⟩
theorem InS.of {α : Type} {f : α → List Value} {b : Nat} {ok ok' : α → Prop} {w : World} {L M : List Ent} {a : Option Addr} {c : Nat} {l : List α} (h : InS f b ok w L a c l) (hm : ∀ b, Owns M b → Owns L b) (ho : ∀ x, ok x → ok' x) : InS f b ok' w M a c l := ⟨h.ro.of hm, h.nz, h.cap, h.small, fun x hx => ho x (h.each x hx)⟩
theorem InS.go {α : Type} {f : α → List Value} {b : Nat} {ok ok' : α → Prop} {w w' : World} {L L' M : List Ent} {a : Option Addr} {c : Nat} {l : List α} (h : InS f b ok w L a c l) (e : Ev w L w' L') (is : List Nat) (hm : M.map some = is.map (fun i => L'[i]?)) (ho : ∀ x, ok x → ok' x) : InS f b ok' w' M a c l := ⟨(h.ro.ev e).pick is hm, h.nz, h.cap, h.small, fun x hx => ho x (h.each x hx)⟩
theorem InS.take {α : Type} {f : α → List Value} {b : Nat} {ok : α → Prop} {w : World} {L : List Ent} {a : Option Addr} {c : Nat} {l : List α} (h : InS f b ok w L a c l) (n : Nat) : InS f b ok w L a c (l.take n) := by
  refine ⟨?_, fun e => by rw [List.length_take, h.nz e]; exact Nat.min_zero _, by have := h.cap; simp; omega, Nat.le_trans (Nat.mul_le_mul_right _ (by simp; omega)) h.small, fun x hx => h.each x (List.mem_of_mem_take hx)⟩
  have e : (l.take n).flatMap f = (l.flatMap f).take ((l.take n).flatMap f).length := by
    have e : l.flatMap f = (l.take n).flatMap f ++ (l.drop n).flatMap f := by rw [← List.flatMap_append, List.take_append_drop]
    rw [e, List.take_left' rfl]
  refine ⟨?_, fun ad ha hx => h.ro.off ad ha fun h0 => hx ?_⟩
  · rw [e]; exact h.ro.reads.take _
  · rw [e, h0]; simp
theorem InS.reads {α : Type} {f : α → List Value} {b : Nat} {ok : α → Prop} {w : World} {L : List Ent} {a : Option Addr} {c : Nat} {l : List α} (h : InS f b ok w L a c l) : Reads w a (l.flatMap f) := h.ro.reads

theorem flat_len {α : Type} {f : α → List Value} {sz : Nat} : ∀ {l : List α}, (∀ x ∈ l, (f x).length = sz) → (l.flatMap f).length = l.length * sz
  | [], _ => by simp
  | x :: r, h => by
    rw [List.flatMap_cons, List.length_append, h x (by simp), flat_len fun y hy => h y (by simp [hy]), List.length_cons, Nat.add_mul]
    omega

theorem flat_get {α : Type} {f : α → List Value} {sz : Nat} : ∀ {l : List α} {i j : Nat} {x : α}, (∀ x ∈ l, (f x).length = sz) → l[i]? = some x → j < sz → (l.flatMap f)[i * sz + j]? = (f x)[j]?
  | [], i, j, x, _, h, _ => by simp at h
  | y :: r, 0, j, x, hl, h, hj => by
    simp only [List.getElem?_cons_zero, Option.some.injEq] at h
    subst h
    rw [List.flatMap_cons, Nat.zero_mul, Nat.zero_add, List.getElem?_append_left (by rw [hl y (by simp)]; exact hj)]
  | y :: r, i + 1, j, x, hl, h, hj => by
    rw [List.getElem?_cons_succ] at h
    rw [List.flatMap_cons, List.getElem?_append_right (by rw [hl y (by simp), Nat.add_mul]; omega), hl y (by simp)]
    have e : (i + 1) * sz + j - sz = i * sz + j := by rw [Nat.add_mul]; omega
    rw [e]
    exact flat_get (fun x hx => hl x (by simp [hx])) h hj

theorem flat_get1 {α : Type} {f : α → List Value} {l : List α} {i : Nat} {x : α} (hl : ∀ x ∈ l, (f x).length = 1) (h : l[i]? = some x) : (l.flatMap f)[i]? = (f x)[0]? := by
  have := flat_get hl h (j := 0) (by decide)
  rwa [Nat.mul_one, Nat.add_zero] at this
theorem flat_sub {α : Type} {f : α → List Value} {sz off m : Nat} {l : List α} {i : Nat} {x : α} {xs : List Value} (hl : ∀ x ∈ l, (f x).length = sz) (h : l[i]? = some x) (hm : off + m ≤ sz) (hx : ((f x).drop off).take m = xs) : ∀ j, j < m → (l.flatMap f)[i * sz + off + j]? = xs[j]? := by
  intro j hj
  rw [Nat.add_assoc, flat_get hl h (by omega), ← hx, List.getElem?_take, if_pos hj, List.getElem?_drop]
theorem flat_get_inv {α : Type} {f : α → List Value} {sz : Nat} : ∀ {l : List α} {j : Nat} {u : Value}, (∀ x ∈ l, (f x).length = sz) → (l.flatMap f)[j]? = some u → ∃ i k x, j = i * sz + k ∧ k < sz ∧ l[i]? = some x ∧ (f x)[k]? = some u
  | [], j, u, _, h => by simp at h
  | y :: r, j, u, hl, h => by
    rw [List.flatMap_cons] at h
    by_cases hj : j < sz
    · rw [List.getElem?_append_left (by rw [hl y (by simp)]; exact hj)] at h
      exact ⟨0, j, y, by omega, hj, rfl, h⟩
    · rw [List.getElem?_append_right (by rw [hl y (by simp)]; omega), hl y (by simp)] at h
      obtain ⟨i, k, x, h1, h2, h3, h4⟩ := flat_get_inv (fun x hx => hl x (by simp [hx])) h
      exact ⟨i + 1, k, x, by rw [Nat.add_mul]; omega, h2, by simpa using h3, h4⟩

section
variable {H : Type} (enc : TypeId × Value → H) (P : Program) (W : World)

def Opens {α : Type} (T : TypeId) (sz : Nat) (f : α → List Value) (ok : α → Prop) (m : α → Nat) : Prop :=
  P.cellsOf T = sz ∧ (∀ x, ok x → (f x).length = sz) ∧ ∀ (fuel : Nat) (cs : List Value) (x : DataW H × List MemPlace), DataW.trod enc P W 0 (fun _ => true) true fuel T cs = some x → (∀ n ∈ x.1.weights P T, n ≤ reachBytes) → ∃ y : α, cs = f y ∧ ok y ∧ m y + 1 ≤ Go.Proofs.Ytofecellbfhnjaa.Rows.uptoBulk x.1

/-- the fields from an offset on -/
def OpensF {α : Type} (fs : List Field) (off sz : Nat) (f : α → List Value) (ok : α → Prop) (m : α → Nat) : Prop :=
  (∀ x, ok x → (f x).length = sz) ∧ ∀ (fuel : Nat) (cs : List Value) (xs : List (DataW H × List MemPlace)), xs.length = fs.length → cs.length = off + sz →
    (∀ (i : Nat) (g : Field), fs[i]? = some g → DataW.trod enc P W 0 (fun _ => true) true fuel g.type ((cs.drop g.offset).take (P.cellsOf g.type)) = xs[i]?) →
    (∀ n ∈ DataW.weightsEach P (fs.map (·.type)) (xs.map (·.1)), n ≤ reachBytes) → ∃ y : α, cs.drop off = f y ∧ ok y ∧ m y ≤ Go.Proofs.Ytofecellbfhnjaa.Rows.uptoBulkAll (xs.map (·.1))
end

section
variable {H : Type} {enc : TypeId × Value → H} {P : Program} {W : World}

theorem bulk_le {H : Type} : ∀ {l : List (DataW H)} {n : Nat} {g : Nat → Nat}, n ≤ l.length → (∀ i d, i < n → l[i]? = some d → g i + 1 ≤ Go.Proofs.Ytofecellbfhnjaa.Rows.uptoBulk d) → ((List.range n).map fun i => g i + 1).sum ≤ Go.Proofs.Ytofecellbfhnjaa.Rows.uptoBulkAll l
  | _, 0, g, _, _ => by simp
  | [], n + 1, g, h, _ => by simp at h
  | d :: r, n + 1, g, h, hg => by
    have h0 := hg 0 d (by omega) rfl
    have ih := bulk_le (l := r) (n := n) (g := fun i => g (i + 1)) (by simpa using h) fun i e hi he => hg (i + 1) e (by omega) (by simpa using he)
    rw [List.range_succ_eq_map, List.map_cons, List.map_map, List.sum_cons]
    simp only [Go.Proofs.Ytofecellbfhnjaa.Rows.uptoBulkAll]
    have e : (List.map ((fun i => g i + 1) ∘ Nat.succ) (List.range n)) = (List.range n).map fun i => g (i + 1) + 1 := rfl
    rw [e]
    omega
theorem sum_at {α : Type} {m : α → Nat} {g : Nat → Nat} : ∀ {l : List α} {k : Nat}, (∀ (i : Nat) (x : α), l[i]? = some x → m x = g (k + i)) → (l.map fun x => m x + 1).sum = ((List.range l.length).map fun i => g (k + i) + 1).sum
  | [], _, _ => rfl
  | x :: r, k, h => by
    have h0 := h 0 x rfl
    have ih := sum_at (m := m) (g := g) (l := r) (k := k + 1) fun i y hy => by have := h (i + 1) y (by simpa using hy); rw [this]; congr 1; omega
    rw [List.length_cons, List.range_succ_eq_map, List.map_cons, List.map_cons, List.sum_cons, List.sum_cons, List.map_map, ih, h0]
    congr 2
    apply List.map_congr_left
    intro i _
    show _ = g (k + (i + 1)) + 1
    congr 2
    omega
theorem choose_fun {p : Nat → Nat → Prop} (n : Nat) (h : ∀ i, i < n → ∃ v, p i v) : ∃ g : Nat → Nat, ∀ i, i < n → p i (g i) := by
  induction n with
  | zero => exact ⟨fun _ => 0, fun i hi => by omega⟩
  | succ n ih =>
    obtain ⟨g, hg⟩ := ih fun i hi => h i (by omega)
    obtain ⟨v, hv⟩ := h n (by omega)
    refine ⟨fun i => if i = n then v else g i, fun i hi => ?_⟩
    by_cases e : i = n
    · subst e; simpa using hv
    · simp only [if_neg e]; exact hg i (by omega)
theorem bulk_list {H : Type} {α : Type} {m : α → Nat} {l : List α} {ds : List (DataW H)} (hl : l.length ≤ ds.length) (h : ∀ (i : Nat) (x : α) (d : DataW H), l[i]? = some x → ds[i]? = some d → m x + 1 ≤ Go.Proofs.Ytofecellbfhnjaa.Rows.uptoBulk d) : (l.map fun x => m x + 1).sum ≤ Go.Proofs.Ytofecellbfhnjaa.Rows.uptoBulkAll ds := by
  obtain ⟨g, hg⟩ := choose_fun (p := fun i v => ∀ x, l[i]? = some x → m x = v) l.length fun i hi => ⟨m l[i], fun x hx => by rw [List.getElem?_eq_getElem hi] at hx; simp only [Option.some.injEq] at hx; rw [hx]⟩
  have e := sum_at (m := m) (g := g) (l := l) (k := 0) fun i x hx => by rw [Nat.zero_add]; exact hg i (List.getElem?_eq_some_iff.1 hx).1 x hx
  rw [e]
  refine Nat.le_trans (Nat.le_of_eq ?_) (bulk_le (n := l.length) (g := g) hl fun i d hi hd => ?_)
  · simp
  · rw [← hg i hi _ (List.getElem?_eq_getElem hi)]
    exact h i _ d (List.getElem?_eq_getElem hi) hd
theorem mem_weightsAll {e : TypeId} : ∀ {ds : List (DataW H)} {d : DataW H} {n : Nat}, d ∈ ds → n ∈ d.weights P e → n ∈ DataW.weightsAll P e ds
  | d0 :: r, d, n, hd, hn => by
    simp only [DataW.weightsAll, List.mem_append]
    rcases List.mem_cons.1 hd with rfl | hd
    · exact .inl hn
    · exact .inr (mem_weightsAll hd hn)

theorem Opens.map {α β : Type} {T : TypeId} {sz : Nat} {f : α → List Value} {ok : α → Prop} {m : α → Nat} {f' : β → List Value} {ok' : β → Prop} {m' : β → Nat} (h : Opens enc P W T sz f ok m) (g : α → β) (hf : ∀ x, f x = f' (g x)) (ho : ∀ x, ok x → ok' (g x)) (hm : ∀ x, m' (g x) ≤ m x) (hl : ∀ y, ok' y → (f' y).length = sz) : Opens enc P W T sz f' ok' m' :=
  ⟨h.1, hl, fun fuel cs d ht hw => by
    obtain ⟨y, rfl, hy, hb⟩ := h.2.2 fuel cs d ht hw
    exact ⟨g y, hf y, ho y hy, Nat.le_trans (Nat.add_le_add_right (hm y) 1) hb⟩⟩

theorem opens_u8 {T : TypeId} (hu : P.underlying T = some (.int .u8)) (hc : P.cellsOf T = 1) : Opens enc P W T 1 (fun n : UInt8 => [bv n]) (fun _ => True) (fun _ => 0) :=
  ⟨hc, fun _ _ => rfl, fun _ _ _ ht _ => by
    obtain ⟨n, rfl, rfl, hw⟩ := DataW.trod_int hu ht
    obtain ⟨x, rfl⟩ := lift_u8 hw
    exact ⟨x, rfl, trivial, by simp [Go.Proofs.Ytofecellbfhnjaa.Rows.uptoBulk]⟩⟩
theorem opens_u16 {T : TypeId} (hu : P.underlying T = some (.int .u16)) (hc : P.cellsOf T = 1) : Opens enc P W T 1 (fun n : UInt16 => [uv16 n]) (fun _ => True) (fun _ => 0) :=
  ⟨hc, fun _ _ => rfl, fun _ _ _ ht _ => by
    obtain ⟨n, rfl, rfl, hw⟩ := DataW.trod_int hu ht
    obtain ⟨x, rfl⟩ := lift_u16 hw
    exact ⟨x, rfl, trivial, by simp [Go.Proofs.Ytofecellbfhnjaa.Rows.uptoBulk]⟩⟩
theorem opens_u32 {T : TypeId} (hu : P.underlying T = some (.int .u32)) (hc : P.cellsOf T = 1) : Opens enc P W T 1 (fun n : UInt32 => [uv32 n]) (fun _ => True) (fun _ => 0) :=
  ⟨hc, fun _ _ => rfl, fun _ _ _ ht _ => by
    obtain ⟨n, rfl, rfl, hw⟩ := DataW.trod_int hu ht
    obtain ⟨x, rfl⟩ := lift_u32 hw
    exact ⟨x, rfl, trivial, by simp [Go.Proofs.Ytofecellbfhnjaa.Rows.uptoBulk]⟩⟩
theorem opens_string {T : TypeId} (hu : P.underlying T = some .string) (hc : P.cellsOf T = 1) : Opens enc P W T 1 (fun l : List UInt8 => [.string (bstr l)]) (fun l => l.length ≤ 140737488351232) (fun l => l.length) :=
  ⟨hc, fun _ _ => rfl, fun _ _ _ ht hw => by
    obtain ⟨s, rfl, rfl, _⟩ := DataW.trod_string hu ht
    have := hw s.data.toList.length (by simp [DataW.weights])
    refine ⟨s.data.toList, ?_, this, by simp [Go.Proofs.Ytofecellbfhnjaa.Rows.uptoBulk]⟩
    cases s
    rfl⟩

theorem opensF_nil {off : Nat} : OpensF enc P W [] off 0 (fun _ : Unit => []) (fun _ => True) (fun _ => 0) :=
  ⟨fun _ _ => rfl, fun _ cs _ _ hl _ _ => ⟨(), List.drop_eq_nil_of_le (by omega), trivial, Nat.zero_le _⟩⟩

theorem opensF_cons {α β : Type} {g : Field} {fs : List Field} {off sz sz' : Nat} {f : α → List Value} {ok : α → Prop} {m : α → Nat} {f' : β → List Value} {ok' : β → Prop} {m' : β → Nat} (h : Opens enc P W g.type sz f ok m) (ho : g.offset = off) (h' : OpensF enc P W fs (off + sz) sz' f' ok' m') :
    OpensF enc P W (g :: fs) off (sz + sz') (fun p : α × β => f p.1 ++ f' p.2) (fun p => ok p.1 ∧ ok' p.2) (fun p => m p.1 + m' p.2) := by
  refine ⟨fun x hx => by rw [List.length_append, h.2.1 _ hx.1, h'.1 _ hx.2], fun fuel cs xs hxl hl ht hw => ?_⟩
  cases xs with
  | nil => simp at hxl
  | cons x xs =>
    have h0 := ht 0 g rfl
    rw [List.getElem?_cons_zero, ho, h.1] at h0
    simp only [List.map_cons, DataW.weightsEach, List.mem_append] at hw
    obtain ⟨y, hy, oy, by_⟩ := h.2.2 fuel _ x h0 fun n hn => hw n (.inl hn)
    obtain ⟨z, hz, oz, bz⟩ := h'.2 fuel cs xs (by simpa using hxl) (by omega) (fun i g' hg => by
      have := ht (i + 1) g' (by simpa using hg)
      rwa [List.getElem?_cons_succ] at this) fun n hn => hw n (.inr hn)
    refine ⟨(y, z), ?_, ⟨oy, oz⟩, ?_⟩
    · show _ = f y ++ f' z
      rw [← hy, ← hz, ← List.drop_drop, List.take_append_drop]
    · simp only [List.map_cons, Go.Proofs.Ytofecellbfhnjaa.Rows.uptoBulkAll]
      omega

theorem opens_struct {α : Type} {T : TypeId} {fs : Array Field} {sz : Nat} {f : α → List Value} {ok : α → Prop} {m : α → Nat} (hu : P.underlying T = some (.struct fs)) (hc : P.cellsOf T = sz) (h : OpensF enc P W fs.toList 0 sz f ok m) : Opens enc P W T sz f ok m := by
  refine ⟨hc, h.1, fun fuel cs d ht hw => ?_⟩
  obtain ⟨xs, n, _, rfl, hl, hxl, hx⟩ := DataW.trod_struct hu ht
  obtain ⟨y, hy, oy, b⟩ := h.2 n cs xs (by rw [hxl, Array.length_toList]) (by rw [hl, hc, Nat.zero_add]) (fun i g hg => hx i g (by simpa using hg)) (fun n hn => hw n (by simp only [DataW.weights, hu]; exact hn))
  exact ⟨y, by simpa using hy, oy, by simp only [Go.Proofs.Ytofecellbfhnjaa.Rows.uptoBulk]; omega⟩

theorem choose_list {α : Type} {p : Nat → α → Prop} : ∀ n, (∀ i, i < n → ∃ x, p i x) → ∃ l : List α, l.length = n ∧ ∀ i x, l[i]? = some x → p i x
  | 0, _ => ⟨[], rfl, fun i x h => by simp at h⟩
  | n + 1, h => by
    obtain ⟨l, hl, hp⟩ := choose_list n fun i hi => h i (by omega)
    obtain ⟨x, hx⟩ := h n (by omega)
    refine ⟨l ++ [x], by simp [hl], fun i y hy => ?_⟩
    by_cases hi : i < l.length
    · rw [List.getElem?_append_left hi] at hy
      exact hp i y hy
    · rw [List.getElem?_append_right (by omega)] at hy
      have h0 : i - l.length = 0 := by have := (List.getElem?_eq_some_iff.1 hy).1; simp at this; omega
      rw [h0] at hy
      simp only [List.getElem?_cons_zero, Option.some.injEq] at hy
      subst hy
      have : i = n := by omega
      subst this
      exact hx

theorem opens_array {α : Type} {T e : TypeId} {n sz : Nat} {f : α → List Value} {ok : α → Prop} {m : α → Nat} (hu : P.underlying T = some (.array n e)) (hc : P.cellsOf T = n * sz) (h : Opens enc P W e sz f ok m) :
    Opens enc P W T (n * sz) (fun l : List α => l.flatMap f) (fun l => l.length = n ∧ ∀ x ∈ l, ok x) (fun l => (l.map fun x => m x + 1).sum) := by
  refine ⟨hc, fun l hl => by rw [flat_len fun x hx => h.2.1 x (hl.2 x hx), hl.1], fun fuel cs d ht hw => ?_⟩
  obtain ⟨xs, fm, _, rfl, hl, hxl, hx⟩ := DataW.trod_array hu ht
  obtain ⟨l, hll, hlp⟩ := choose_list (p := fun i y => (cs.drop (i * sz)).take sz = f y ∧ ok y ∧ ∀ d, xs[i]? = some d → m y + 1 ≤ Go.Proofs.Ytofecellbfhnjaa.Rows.uptoBulk d.1) n fun i hi => by
    have h1 := hx i hi
    rw [h.1] at h1
    have h2 : i < xs.length := by omega
    rw [List.getElem?_eq_getElem h2] at h1
    obtain ⟨y, hy, oy, b⟩ := h.2.2 fm _ _ h1 fun k hk => hw k (by
      simp only [DataW.weights, hu]
      exact mem_weightsAll (List.mem_map.2 ⟨_, List.getElem_mem h2, rfl⟩) hk)
    exact ⟨y, hy, oy, fun d hd => by rw [List.getElem?_eq_getElem h2] at hd; simp only [Option.some.injEq] at hd; rw [← hd]; exact b⟩
  have hmem : ∀ x ∈ l, ok x := fun x hx => by
    obtain ⟨i, hi, rfl⟩ := List.mem_iff_getElem.1 hx
    exact (hlp i _ (List.getElem?_eq_getElem hi)).2.1
  refine ⟨l, ?_, ⟨hll, hmem⟩, ?_⟩
  rotate_left
  · simp only [Go.Proofs.Ytofecellbfhnjaa.Rows.uptoBulk]
    refine Nat.add_le_add_right (bulk_list (by simp; omega) fun i x d hx hd => ?_) 1
    simp only [List.getElem?_map, Option.map_eq_some_iff] at hd
    obtain ⟨q, hq, rfl⟩ := hd
    exact (hlp i x hx).2.2 q hq
  apply List.ext_getElem?
  intro j
  have hfl := flat_len (l := l) (fun x hx => h.2.1 x (hmem x hx))
  by_cases hj : j < n * sz
  · have hpos : 0 < sz := by rcases Nat.eq_zero_or_pos sz with h0 | h0; · subst h0; simp at hj
                             · exact h0
    have hq : j / sz < n := Nat.div_lt_of_lt_mul (by rw [Nat.mul_comm]; exact hj)
    have hm := Nat.mod_lt j hpos
    have e := Nat.div_add_mod j sz
    have hi : j / sz < l.length := by omega
    have h1 := flat_get (f := f) (sz := sz) (j := j % sz) (fun x hx => h.2.1 x (hmem x hx)) (List.getElem?_eq_getElem hi) hm
    have h2 := hlp (j / sz) _ (List.getElem?_eq_getElem hi)
    rw [Nat.mul_comm, e] at h1
    rw [h1, ← h2.1, List.getElem?_take, if_pos hm, List.getElem?_drop, Nat.mul_comm, e]
  · rw [List.getElem?_eq_none (by rw [hl, hc]; omega), List.getElem?_eq_none (by rw [hfl, hll]; omega)]

theorem opens_slice {α : Type} {T e : TypeId} {sz by_ : Nat} {f : α → List Value} {ok : α → Prop} {mm : α → Nat} (hu : P.underlying T = some (.slice e)) (hT : P.cellsOf T = 1) (hby : P.bytesOf e = by_) (h : Opens enc P W e sz f ok mm) :
    Opens enc P W T 1 (fun s : Sl α => s.f) (fun s => InS f by_ ok W [] s.a s.c s.l) (fun s => (s.l.map fun x => mm x + 1).sum) := by
  refine ⟨hT, fun _ _ => rfl, fun fuel cs d ht hw => ?_⟩
  rcases Deep.open_slice hu ht with ⟨rfl, rfl⟩ | ⟨a, len, cap, m, n, D, Pl, rfl, _, hl, hm, hmm, rfl, hx⟩
  · exact ⟨⟨none, 0, []⟩, rfl, ⟨ro_nil rfl, fun _ => rfl, Nat.le_refl _, by simp, fun _ h => by cases h⟩, by simp [Go.Proofs.Ytofecellbfhnjaa.Rows.uptoBulk]⟩
  · simp only [if_true] at hmm
    obtain rfl := hmm.symm
    simp only [DataW.weights, hu, List.mem_cons, List.mem_append, List.length_map, List.length_range] at hw
    have hs := hw _ (.inl rfl)
    rw [hby] at hs
    have e1 : reachBytes = 140737488351232 := rfl
    rw [e1] at hs
    obtain ⟨l, hll, hlp⟩ := choose_list (p := fun i y => W.cells? 0 (a.add (i * sz)) sz = some (f y) ∧ ok y ∧ mm y + 1 ≤ Go.Proofs.Ytofecellbfhnjaa.Rows.uptoBulk (D i)) len fun i hi => by
      obtain ⟨cs', h1, h2⟩ := hx i (by omega)
      rw [h.1] at h1
      obtain ⟨y, rfl, oy, b⟩ := h.2.2 n cs' _ h2 fun k hk => hw k (.inr (.inl (mem_weightsAll (List.mem_map.2 ⟨i, by simpa using hi, rfl⟩) hk)))
      exact ⟨y, h1, oy, b⟩
    have hmem : ∀ x ∈ l, ok x := fun x hx => by
      obtain ⟨i, hi, rfl⟩ := List.mem_iff_getElem.1 hx
      exact (hlp i _ (List.getElem?_eq_getElem hi)).2.1
    refine ⟨⟨some a, cap, l⟩, by simp [Sl.f, hll], ⟨ro_nil ?_, fun h => (by cases h), by show l.length ≤ cap; omega, ?_, hmem⟩, ?_⟩
    rotate_left 2
    · simp only [Go.Proofs.Ytofecellbfhnjaa.Rows.uptoBulk]
      have := bulk_list (m := mm) (l := l) (ds := (List.range len).map D) (by simp; omega) fun i x d hx hd => by
        have hi : i < len := by have := (List.getElem?_eq_some_iff.1 hx).1; omega
        simp only [List.getElem?_map, List.getElem?_range hi, Option.map_some, Option.some.injEq] at hd
        rw [← hd]
        exact (hlp i x hx).2.2
      show (l.map fun x => mm x + 1).sum + 1 ≤ _
      omega
    · intro j u hj
      obtain ⟨i, k, x, rfl, hk, hi, hu'⟩ := flat_get_inv (fun x hx => h.2.1 x (hmem x hx)) hj
      have h1 := (World.cells?_some (hlp i x hi).1).2.2 k hk
      rw [hu'] at h1
      rw [← h1, Deep.add_add]
    · show l.length * by_ ≤ _
      have h1 : l.length * by_ ≤ (len + (cap - len)) * by_ := Nat.mul_le_mul_right _ (by omega)
      exact Nat.le_trans h1 hs

theorem flatMap_bys (l : List UInt8) : l.flatMap (fun b => [bv b]) = bys l := by simp [bys, List.flatMap_def]; induction l <;> simp_all <;> omega
theorem sum_ones {α : Type} (l : List α) : (l.map fun _ => 0 + 1).sum = l.length := by induction l <;> simp_all <;> omega
theorem opens_bys {T e : TypeId} (hu : P.underlying T = some (.slice e)) (hT : P.cellsOf T = 1) (he : P.underlying e = some (.int .u8)) (hc : P.cellsOf e = 1) (hby : P.bytesOf e = 1) :
    Opens enc P W T 1 (fun s : Sl UInt8 => s.f) (fun s => InB W [] s.a s.c s.l) (fun s => s.l.length) :=
  (opens_slice hu hT hby (opens_u8 he hc)).map id (fun _ => rfl) (fun s h => ⟨by have := h.ro; rwa [flatMap_bys] at this, h.nz, h.cap, by have := h.small; rw [Nat.mul_one] at this; exact Nat.le_trans this (by decide)⟩) (fun s => Nat.le_of_eq (sum_ones s.l).symm) (fun _ _ => rfl)
theorem opens_byarr {T e : TypeId} {n : Nat} (hu : P.underlying T = some (.array n e)) (hT : P.cellsOf T = n) (he : P.underlying e = some (.int .u8)) (hc : P.cellsOf e = 1) :
    Opens enc P W T n (fun l : List UInt8 => bys l) (fun l => l.length = n) (fun _ => 0) := by
  have h := opens_array (enc := enc) (P := P) (W := W) (n := n) (sz := 1) hu (by rw [Nat.mul_one]; exact hT) (opens_u8 he hc)
  rw [Nat.mul_one] at h
  exact h.map id (fun l => flatMap_bys l) (fun l hl => hl.1) (fun _ => Nat.zero_le _) (fun l hl => by rw [bys_length]; exact hl)

/-- a parameter that is one cell -/
theorem open_one {α : Type} {T : TypeId} {f : α → List Value} {ok : α → Prop} {m : α → Nat} (h : Opens enc P W T 1 f ok m) {v : Value} {d : DataW H} {ps : List MemPlace} (hd : DataW.Trod enc P W 0 (fun _ => true) true T v d ps) (hv : v.cells = #[v])
    (hw : ∀ n ∈ d.weights P T, n ≤ reachBytes) : ∃ y : α, [v] = f y ∧ ok y ∧ m y + 1 ≤ Go.Proofs.Ytofecellbfhnjaa.Rows.uptoBulk d := by
  obtain ⟨fuel, hf⟩ := hd
  have := h.2.2 fuel _ _ hf hw
  rwa [hv] at this
theorem open_many {α : Type} {T : TypeId} {sz : Nat} {f : α → List Value} {ok : α → Prop} {m : α → Nat} (h : Opens enc P W T sz f ok m) {v : Value} {d : DataW H} {ps : List MemPlace} (hd : DataW.Trod enc P W 0 (fun _ => true) true T v d ps) (hv : ∃ cs, v = .agg cs)
    (hw : ∀ n ∈ d.weights P T, n ≤ reachBytes) : ∃ y : α, v = .agg (f y).toArray ∧ ok y ∧ m y + 1 ≤ Go.Proofs.Ytofecellbfhnjaa.Rows.uptoBulk d := by
  obtain ⟨cs, rfl⟩ := hv
  obtain ⟨fuel, hf⟩ := hd
  obtain ⟨y, hy, oy, b⟩ := h.2.2 fuel _ _ hf hw
  refine ⟨y, ?_, oy, b⟩
  have : cs.toList = f y := hy
  rw [← this]
theorem one_int {r : Reach} {b0 : Nat} {T : TypeId} {v : Value} {k : IntKind} (hu : P.underlying T = some (.int k)) (h : Value.okWide P W r b0 T v) : v.cells = #[v] := by obtain ⟨_, rfl⟩ := okWide_int hu h; rfl
theorem one_slice {r : Reach} {b0 : Nat} {T e : TypeId} {v : Value} (hu : P.underlying T = some (.slice e)) (h : Value.okWide P W r b0 T v) : v.cells = #[v] := by obtain ⟨_, _, _, rfl⟩ := okWide_slice hu h; rfl
theorem bulk_at {ds : List (DataW H)} (h : Go.Proofs.Ytofecellbfhnjaa.Rows.uptoSmall H ds = true) : Go.Proofs.Ytofecellbfhnjaa.Rows.uptoBulkAll ds ≤ 1048576 := of_decide_eq_true h
theorem sized_each {ts : List TypeId} {ds : List (DataW H)} (h : (DataW.weightsEach P ts ds).all (· ≤ reachBytes) = true) {j : Nat} {t : TypeId} {d : DataW H} (ht : ts[j]? = some t) (hd : ds[j]? = some d) : ∀ n ∈ d.weights P t, n ≤ reachBytes := fun n hn => by
  have := List.all_eq_true.1 h _ (DataW.weights_mem_each ht hd n hn)
  simpa using this
theorem okWide_agg {r : Reach} {b0 : Nat} {T : TypeId} {v : Value} (hu : (∃ fs, P.underlying T = some (.struct fs)) ∨ ∃ n e, P.underlying T = some (.array n e)) (h : Value.okWide P W r b0 T v) : ∃ cs, v = .agg cs := by
  rcases hu with ⟨fs, hu⟩ | ⟨n, e, hu⟩ <;> simp only [Value.okWide, hu] at h <;> obtain ⟨cs, h1, _⟩ := h <;> exact ⟨cs, h1⟩
end
end Go.Dbr

/- Slices within what is owned: read alone, carried along as one entry; parts of a slice that is handed in. -/


namespace Go.Dbr
open Go Go.RowKit
section
variable {w w0 : World} {L L0 : List Ent}

/-- what an entry gives to those that are read alone -/
def Ent.inn : Ent → List Inn
  | .grp D => D
  | .vec a cap sz xs T => [(a, cap, sz, xs, T)]
  | _ => []
def innAt (L : List Ent) (k : Nat) : List Inn := match L[k]? with
  | some e => e.inn
  | none => []
theorem mem_innAt {L : List Ent} {k : Nat} {d : Inn} (h : d ∈ innAt L k) : ∃ e, L[k]? = some e ∧ d ∈ e.inn := by
  unfold innAt at h
  cases he : L[k]? with
  | none => rw [he] at h; cases h
  | some e => rw [he] at h; exact ⟨e, rfl, h⟩
theorem inn_own {e : Ent} {d : Inn} (h : d ∈ e.inn) {b : Nat} (hb : d.ent.blk = some b) : e.own b := by
  cases e with
  | box b cs T => cases h
  | map b kv => cases h
  | grp D => exact ⟨d, h, hb⟩
  | vec a cap sz xs T =>
    have : d = (a, cap, sz, xs, T) := List.mem_singleton.1 h
    subst this
    exact hb
theorem inn_holds {e : Ent} {d : Inn} (h : d ∈ e.inn) (he : e.holds w) : d.ent.holds0 w := by
  cases e with
  | box b cs T => cases h
  | map b kv => cases h
  | grp D => exact he d h
  | vec a cap sz xs T =>
    have : d = (a, cap, sz, xs, T) := List.mem_singleton.1 h
    subst this
    exact he
/-- some entries are kept, others become one that is read alone -/
theorem Ev.group (H : Ev w0 L0 w L) (is ks : List Nat) {M : List Ent} {D : List Inn} (hm : M.map some = is.map (fun i => L[i]?)) (hD : D = ks.flatMap (innAt L)) (nd : (is ++ ks).Nodup) : Ev w0 L0 w (M ++ [.grp D]) := by
  have ndi : is.Nodup := (List.nodup_append.1 nd).1
  have hh := H.heap
  have inD : ∀ d : Inn, d ∈ D → ∃ (k : Nat) (e : Ent), k ∈ ks ∧ L[k]? = some e ∧ d ∈ e.inn := by
    intro d hd
    rw [hD] at hd
    obtain ⟨k, hk, hd⟩ := List.mem_flatMap.1 hd
    obtain ⟨e, he, hd⟩ := mem_innAt hd
    exact ⟨k, e, hk, he, hd⟩
  have ownD : ∀ b, Owns [Ent.grp D] b → ∃ (k : Nat) (e : Ent), k ∈ ks ∧ L[k]? = some e ∧ e.own b := by
    intro b ⟨i, e, hi, he⟩
    cases i with
    | succ i => simp at hi
    | zero =>
      simp only [List.getElem?_cons_zero, Option.some.injEq] at hi
      subst hi
      obtain ⟨d, hd, hb⟩ := he
      obtain ⟨k, e, hk, hke, hde⟩ := inD d hd
      exact ⟨k, e, hk, hke, inn_own hde hb⟩
  have one : Heap w [Ent.grp D] := by
    have at0 : ∀ (i : Nat) (f : Ent), [Ent.grp D][i]? = some f → i = 0 ∧ f = .grp D := fun i f hi => by
      cases i with
      | zero => exact ⟨rfl, by simpa using hi.symm⟩
      | succ i => simp at hi
    refine ⟨fun i j f g b hi hj _ _ => by rw [(at0 i f hi).1, (at0 j g hj).1], fun i f hi => ?_⟩
    rw [(at0 i f hi).2]
    intro d hd
    obtain ⟨k, e, _, hke, hde⟩ := inD d hd
    exact inn_holds hde (hh.holds k e hke)
  refine ⟨(hh.pick is hm ndi).append one fun b ho ho' => ?_, H.chg, fun b ho => ?_⟩
  · obtain ⟨k, e, hk, hke, heb⟩ := ownD b ho'
    obtain ⟨j, f, hj, hf⟩ := ho
    have h1 : (M.map some)[j]? = some (some f) := by simp [hj]
    rw [hm, List.getElem?_map] at h1
    cases hi : is[j]? with
    | none => simp [hi] at h1
    | some i =>
      have h2 : L[i]? = some f := by simpa [hi] using h1
      have e1 := hh.sep i k f e b h2 hke hf heb
      subst e1
      exact (List.nodup_append.1 nd).2.2 i (List.mem_of_getElem? hi) i hk rfl
  · rcases owns_append.1 ho with h1 | h1
    · exact H.new b (owns_pick hm h1)
    · obtain ⟨k, e, _, hke, heb⟩ := ownD b h1
      exact H.new b ⟨k, e, hke, heb⟩
/-- nothing that is read alone yet -/
theorem Ev.grp0 (H : Ev w0 L0 w L) : Ev w0 L0 w (L ++ [.grp []]) :=
  H.trans (Ev.add H.heap (Chg.refl _ _) (fun d hd => by cases hd) (fun b hb => by obtain ⟨d, hd, _⟩ := hb; cases hd))
/-- one that is read alone, where the callee owns others -/
theorem Heap.innRo (h : Heap w L) {M : List Ent} {k : Nat} {D : List Inn} (hk : L[k]? = some (.grp D)) {a : Option Addr} {cap sz : Nat} {xs : List Value} {T : TypeId} (hd : (a, cap, sz, xs, T) ∈ D) (is : List Nat) (hm : M.map some = is.map (fun i => L[i]?)) (hn : is.contains k = false) : Ro w M a xs := by
  have h0 : Ent.holds0 w (.vec a cap sz xs T) := h.holds k _ hk _ hd
  have one : Heap w [Ent.vec a cap sz xs T] := by
    have at0 : ∀ (i : Nat) (f : Ent), [Ent.vec a cap sz xs T][i]? = some f → i = 0 ∧ f = .vec a cap sz xs T := fun i f hi => by
      cases i with
      | zero => exact ⟨rfl, by simpa using hi.symm⟩
      | succ i => simp at hi
    exact ⟨fun i j f g b hi hj _ _ => by rw [(at0 i f hi).1, (at0 j g hj).1], fun i f hi => by rw [(at0 i f hi).2]; exact h0⟩
  refine ⟨one.reads (k := 0) rfl, fun ad ha _ ho => ?_⟩
  obtain ⟨j, e, hj, he⟩ := ho
  have h1 : (M.map some)[j]? = some (some e) := by simp [hj]
  rw [hm, List.getElem?_map] at h1
  cases hi : is[j]? with
  | none => simp [hi] at h1
  | some i =>
    have h2 : L[i]? = some e := by simpa [hi] using h1
    have := h.sep k i _ e ad.block hk h2 ⟨_, hd, by simp [Inn.ent, Ent.blk, ha]⟩ he
    subst this
    have hmem : k ∈ is := List.mem_of_getElem? hi
    have := List.contains_iff_mem.2 hmem
    rw [hn] at this
    cases this
theorem vec_nz {a : Option Addr} {cap : Nat} {l : List UInt8} {T : TypeId} (h0 : Ent.holds0 w (.vec a cap 1 (bys l) T)) : (a = none → l.length = 0) ∧ l.length ≤ cap := by
  cases a with
  | none =>
    obtain ⟨h1, h2⟩ := h0
    have : l = [] := by
      cases l with
      | nil => rfl
      | cons x r => cases h2
    subst this
    exact ⟨fun _ => rfl, Nat.zero_le _⟩
  | some ad =>
    obtain ⟨_, _, h3, _⟩ := h0
    rw [bys_length, Nat.mul_one] at h3
    exact ⟨fun e => (by cases e), h3⟩
/-- bytes that are read alone -/
theorem Heap.innB (h : Heap w L) {M : List Ent} {k : Nat} {D : List Inn} (hk : L[k]? = some (.grp D)) {a : Option Addr} {cap : Nat} {l : List UInt8} {T : TypeId} (hd : (a, cap, 1, bys l, T) ∈ D) (is : List Nat) (hm : M.map some = is.map (fun i => L[i]?)) (hn : is.contains k = false) (hs : l.length ≤ 140737489403904) : InB w M a cap l := by
  have h0 : Ent.holds0 w (.vec a cap 1 (bys l) T) := h.holds k _ hk _ hd
  exact ⟨h.innRo hk hd is hm hn, (vec_nz h0).1, (vec_nz h0).2, hs⟩
/-- structs whose slices are read alone -/
theorem Heap.innS {α : Type} {f : α → List Value} {sz by_ : Nat} {ok : α → Prop} (h : Heap w L) {M : List Ent} {k : Nat} {a : Option Addr} {cap : Nat} {xs : List α} {T : TypeId} (hk : L[k]? = some (.vec a cap sz (xs.flatMap f) T))
    (hf : ∀ x, (f x).length = sz) (h1 : 0 < sz) (is : List Nat) (hm : M.map some = is.map (fun i => L[i]?)) (hn : is.contains k = false) (hs : xs.length * by_ ≤ 140737488351232) (ho : ∀ x ∈ xs, ok x) : InS f by_ ok w M a cap xs := by
  have h0 : Ent.holds0 w (.vec a cap sz (xs.flatMap f) T) := h.holds k _ hk
  have hlen : ∀ ys : List α, (ys.flatMap f).length = ys.length * sz := by
    intro ys
    induction ys with
    | nil => simp
    | cons y r ih => rw [List.flatMap_cons, List.length_append, hf, ih, List.length_cons, Nat.succ_mul, Nat.add_comm]
  refine ⟨h.ro hk is hm hn, fun ha => ?_, ?_, hs, ho⟩
  · subst ha
    obtain ⟨_, h2⟩ := h0
    have := hlen xs
    rw [h2] at this
    rcases Nat.eq_zero_or_pos xs.length with e | e
    · exact e
    · have := Nat.mul_pos e h1; simp at *; omega
  · cases a with
    | none =>
      obtain ⟨h1', h2⟩ := h0
      have := hlen xs
      rw [h2] at this
      rcases Nat.eq_zero_or_pos xs.length with e | e
      · rw [e]; exact Nat.zero_le _
      · have := Nat.mul_pos e h1; simp at *; omega
    | some ad =>
      obtain ⟨_, _, h3, _⟩ := h0
      rw [hlen] at h3
      exact Nat.le_of_mul_le_mul_right h3 h1

/-- whoever may read the one may read the other -/
def Sub (a : Option Addr) (c : Nat) (l : List UInt8) (a' : Option Addr) (c' : Nat) (l' : List UInt8) : Prop := ∀ w M, InB w M a c l → InB w M a' c' l'
theorem Sub.self {a : Option Addr} {c : Nat} {l : List UInt8} : Sub a c l a c l := fun _ _ h => h
theorem Sub.nil {a : Option Addr} {c : Nat} {l : List UInt8} : Sub a c l none 0 [] := fun w M _ => InB.nil w M
theorem Sub.trans {a : Option Addr} {c : Nat} {l : List UInt8} {a' : Option Addr} {c' : Nat} {l' : List UInt8} {a2 : Option Addr} {c2 : Nat} {l2 : List UInt8} (h : Sub a c l a' c' l') (k : Sub a' c' l' a2 c2 l2) : Sub a c l a2 c2 l2 := fun w M i => k w M (h w M i)
end
end Go.Dbr

/- A slice's bytes as an array: over any program. -/

namespace Go.Dbr
open Go Go.RowKit
section
variable {P : Program}
variable {w : World}
end
end Go.Dbr

/- Whole numbers shifted; bits of both; a slice cut short: over any program. -/


namespace Go.Dbr
open Go Go.RowKit
section
variable {P : Program} {ops : Array Oper} {Q : Exit → Act → World → Prop} {n i : Nat} {l : List (Nat × Value)} {a : Act} {w w0 : World} {L L0 : List Ent} {d : Option Tmp} {K : Act → World → Prop}
theorem run_shr_i64 (x : Nat) (k : IntKind) (m : Nat) (hm : m < 64) (w : World) : (Op.shift .shr .i64 ((x : Nat) : Int) k ((m : Nat) : Int)).run P w = .ok (.int .i64 ((x / 2 ^ m : Nat) : Int)) w := by
  unfold Op.shift
  have h1 : ¬ (((m : Nat) : Int) < 0) := by omega
  have h2 : min (((m : Nat) : Int)).toNat (IntKind.bits .i64) = m := by simp [IntKind.bits]; omega
  rw [if_neg h1]
  simp only [h2, Sem.run_pure]
  rw [Int.fdiv_eq_ediv_of_nonneg _ (Int.pow_nonneg (by decide)), Int.natCast_ediv, Int.natCast_pow]
  rfl
theorem i64_or_nat {x y : Nat} (hx : x < 9223372036854775808) (hy : y < 9223372036854775808) : IntKind.wrap .i64 ((BitVec.ofInt (IntKind.bits .i64) ((x : Nat) : Int) ||| BitVec.ofInt (IntKind.bits .i64) ((y : Nat) : Int)).toNat : Int) = ((x ||| y : Nat) : Int) := by
  have h : x ||| y < 2 ^ 63 := Nat.or_lt_two_pow (by simpa using hx) (by simpa using hy)
  have e1 : (BitVec.ofInt (IntKind.bits .i64) ((x : Nat) : Int)).toNat = x := by
    show (BitVec.ofInt 64 ((x : Nat) : Int)).toNat = x
    rw [BitVec.ofInt_natCast, BitVec.toNat_ofNat, Nat.mod_eq_of_lt (by omega)]
  have e2 : (BitVec.ofInt (IntKind.bits .i64) ((y : Nat) : Int)).toNat = y := by
    show (BitVec.ofInt 64 ((y : Nat) : Int)).toNat = y
    rw [BitVec.ofInt_natCast, BitVec.toNat_ofNat, Nat.mod_eq_of_lt (by omega)]
  rw [BitVec.toNat_or, e1, e2]
  exact wr64 rfl (by omega) (by omega)
theorem or_low {x y : Nat} (k : Nat) (h : y < 2 ^ k) : x * 2 ^ k ||| y = x * 2 ^ k + y := by
  rw [← Nat.shiftLeft_eq, ← Nat.shiftLeft_add_eq_or_of_lt h]
/-- a byte put behind -/
theorem i64_or_low {x y : Nat} (k : Nat) (h : y < 2 ^ k) (hx : x * 2 ^ k + y < 9223372036854775808) : IntKind.wrap .i64 ((BitVec.ofInt (IntKind.bits .i64) ((x * 2 ^ k : Nat) : Int) ||| BitVec.ofInt (IntKind.bits .i64) ((y : Nat) : Int)).toNat : Int) = ((x * 2 ^ k + y : Nat) : Int) := by
  rw [i64_or_nat (by omega) (by omega), or_low k h]
theorem nat_to_u16 {a : Int} {n : Nat} (ha : a = ((n : Nat) : Int)) : IntKind.wrap .u16 a = ((UInt16.toNat (UInt16.ofNat n) : Nat) : Int) := by
  subst ha; rw [wrap_u16, UInt16.toNat_ofNat']; omega
theorem nat_to_u32 {a : Int} {n : Nat} (ha : a = ((n : Nat) : Int)) : IntKind.wrap .u32 a = ((UInt32.toNat (UInt32.ofNat n) : Nat) : Int) := by
  subst ha; rw [wrap_u32, UInt32.toNat_ofNat']; omega
/-- x[:m:m] -/
theorem run_slicemx {t e : TypeId} {sz : Nat} (hu : P.underlying t = some (.slice e)) (hs : (fun w => (sizeOf e).run P w) = fun w => .ok sz w) (ao : Option Addr) (len cap m : Nat) (h2 : m ≤ cap) (k k' : IntKind) (w : World) :
    (Instr.sliceAt t (.slice ao len cap) none (some (.int k ((m : Nat) : Int))) (some (.int k' ((m : Nat) : Int)))).run P w = .ok (.slice ao m m) w := by
  have hs' : (sizeOf e).run P w = .ok sz w := congrFun hs w
  have hc := cutAt_zero ao m sz
  unfold cutAt at hc
  rw [Nat.zero_mul] at hc
  simp [Instr.sliceAt, Instr.slice, Instr.sliceBounds, Instr.sliceBound, run_underlying hu, asIntOf, hs', h2, hc]
theorem sub_mx {a : Option Addr} {c : Nat} {l : List UInt8} (m : Nat) (h : m ≤ l.length) : Sub a c l a m (List.take m l) := fun _ _ i => by
  have j := i.take m
  refine ⟨j.ro, j.nz, by rw [List.length_take]; omega, j.small⟩
theorem sub_drop {a : Option Addr} {c : Nat} {l : List UInt8} (m : Nat) (h : m ≤ l.length) : Sub a c l (cutAt a c m 1) (c - m) (List.drop m l) := fun _ _ i => i.drop m h
end
end Go.Dbr

/- Layer 17: readers. -/



namespace Go.Proofs.Ytofecellbfhnjaa
open Go.Dbr
set_option maxRecDepth 100000
set_option maxHeartbeats 2000000
set_option linter.unusedVariables false
set_option linter.unusedSimpArgs false

abbrev pt (b : Nat) : Value := .pointer (some (Addr.mk b 0 none))
abbrev ni (n : Nat) : Value := .int .i64 (n : Int)
abbrev Bs := List UInt8
/-- so many bytes are taken from the front; short: there are fewer -/
def tkS (n : Nat) (l : Bs) (s : Bool) : Bool := s || decide (l.length < n)
def tkO (n : Nat) (l : Bs) (s : Bool) : Bs := bif tkS n l s then [] else List.take n l
def tkR (n : Nat) (l : Bs) (s : Bool) : Bs := bif tkS n l s then [] else List.drop n l
theorem tk_s {n : Nat} {l : Bs} {s : Bool} (h : s = true) : tkS n l s = true := by rw [tkS, h]; rfl
theorem tk_n {n : Nat} {l : Bs} {s : Bool} (h : l.length < n) : tkS n l s = true := by rw [tkS, decide_eq_true h, Bool.or_true]
theorem tk_y {n : Nat} {l : Bs} {s : Bool} (h1 : ¬ s = true) (h : ¬ l.length < n) : tkS n l s = false := by rw [tkS, decide_eq_false h, Bool.eq_false_iff.2 h1]; rfl
theorem tkO_len (n : Nat) (l : Bs) (s : Bool) : (tkO n l s).length ≤ n := by
  unfold tkO
  cases tkS n l s with
  | true => exact Nat.zero_le _
  | false => rw [Bool.cond_false, List.length_take]; omega
theorem tkR_len (n : Nat) (l : Bs) (s : Bool) : (tkR n l s).length ≤ l.length := by
  unfold tkR
  cases tkS n l s with
  | true => exact Nat.zero_le _
  | false => rw [Bool.cond_false, List.length_drop]; omega
/-- the number of bytes, the highest first -/
def beV (l : Bs) : Nat := l.foldl (fun v b => v * 256 + b.toNat) 0
theorem beV_snoc (l : Bs) (b : UInt8) : beV (l ++ [b]) = beV l * 256 + b.toNat := by rw [beV, List.foldl_append]; rfl
theorem beV_take {l : Bs} {j : Nat} (h : j < l.length) : beV (List.take (j + 1) l) = beV (List.take j l) * 256 + (List.getD l j 0).toNat := by
  rw [List.take_add_one, List.getElem?_eq_getElem h, Option.toList_some, beV_snoc, List.getD_eq_getElem?_getD, List.getElem?_eq_getElem h]
  rfl
theorem beV_lt : ∀ (k : Nat) (l : Bs), l.length = k → beV l < 256 ^ k
  | 0, l, h => by rw [List.length_eq_zero_iff.1 h]; decide
  | k + 1, l, h => by
    have e : l = List.take k l ++ [List.getD l k 0] := by
      rw [List.getD_eq_getElem?_getD, List.getElem?_eq_getElem (by omega)]
      show l = List.take k l ++ [l[k]]
      rw [List.take_append_getElem, List.take_of_length_le (by omega)]
    have ih := beV_lt k (List.take k l) (by rw [List.length_take]; omega)
    rw [e, beV_snoc, Nat.pow_succ]
    have := (List.getD l k 0).toNat_lt
    omega
theorem beV_4 {l : Bs} (h : l.length ≤ 4) : beV l < 4294967296 := Nat.lt_of_lt_of_le (beV_lt _ l rfl) (Nat.pow_le_pow_right (by decide) h : 256 ^ l.length ≤ 256 ^ 4)
def nbV (n : Nat) (l : Bs) (s : Bool) : Nat := beV (tkO n l s)
theorem nbV_4 {n : Nat} (h : n ≤ 4) (l : Bs) (s : Bool) : nbV n l s < 4294967296 := beV_4 (Nat.le_trans (tkO_len n l s) h)
theorem u8_lt (b : UInt8) : b.toNat < 256 := b.toNat_lt

theorem take_go (w : World) (br : Nat) (n : Nat) (hn : n ≤ 9223372036854775807) (a : Option Addr) (c : Nat) (l : List UInt8) (s o : Bool) (i : InB w [.box br [.slice a (List.length l) c, .bool s, .bool o] 120] a c l) (hH : Heap w [.box br [.slice a (List.length l) c, .bool s, .bool o] 120]) : Calls Try.prog 104 #[pt br, ni n] w fun e w' => ∃ ra rc ta tc, e = .returned (.slice ra (List.length (tkO n l s)) rc) ∧ Ev w [.box br [.slice a (List.length l) c, .bool s, .bool o] 120] w' [.box br [.slice ta (List.length (tkR n l s)) tc, .bool (tkS n l s), .bool o] 120] ∧ Sub a c l ra rc (tkO n l s) ∧ Sub a c l ta tc (tkR n l s) := by
 refine d_0 [(0, pt br), (1, ni n)] 42 Go.Proofs.Try.func104 Go.Proofs.Try.ntmps104 (hH) fun act0 En0 Hv0 => ?_
 refine d_s [0,1,4] [] En0 fun ac1 En2 => ?_
 refine wp_seq ?_
 refine wp_seq ?_
 refine region_from ?_
 refine d_k [0,1,4,8] [] 3 En2 fun ac3 En4 => ?_
 refine f_o ?_
 refine m_l 0 En4 Hv0 fun ac5 En6 => ?_
 refine d_k [0,1,4,10] [] 5 En6 fun ac7 En8 => ?_
 rcases Bool.eq_false_or_eq_true (s) with hb9 | hb9
 ·
  have En10 := En8.fx (t := 10) (congrArg Value.bool hb9)
  have hp11 : s = true := hb9
  refine d_e [0,1,4,18] [] En10 fun ac12 En13 => ?_
  refine then_normal ?_
  refine c_t En13 ?_
  refine wp_seq ?_
  refine region_from ?_
  refine d_k [0,1,4,20,22] [] 4 En13 fun ac14 En15 => ?_
  refine f_o ?_
  refine m_s 0 [.box br [.slice a (List.length l) c, .bool true, .bool o] 120] En15 Hv0 fun ac16 wo17 En18 Hv19 => ?_
  refine d_k [0,1,4,24] [] 7 En18 fun ac20 En21 => ?_
  refine f_o ?_
  refine m_s 0 [.box br [.slice none 0 0, .bool true, .bool o] 120] En21 Hv19 fun ac22 wo23 En24 Hv25 => ?_
  refine f_e ?_
  refine then_normal ?_
  refine d_s [0,1,4] [] En24 fun ac26 En27 => ?_
  refine wp_ret ?_
  refine then_ret ?_
  refine d_ret1 (t := 4) (v := .slice none 0 0) En27 (by kernel_rfl) (by kernel_rfl) ?_
  have eS : tkS n l s = true := by first | exact tk_s (by assumption) | exact tk_n (by omega)
  rw [tkO, tkR, eS]
  exact ⟨none, 0, none, 0, rfl, Hv25.pk [0], Sub.nil, Sub.nil⟩
 ·
  have En28 := En8.fx (t := 10) (congrArg Value.bool hb9)
  have hp29 : ¬ (s = true) := Bool.eq_false_iff.1 hb9
  refine d_k [0,1,4,10,11,14] [] 9 En28 fun ac30 En31 => ?_
  refine f_o ?_
  refine m_l 0 En31 Hv0 fun ac32 En33 => ?_
  refine d_e [0,1,4,18] [] En33 fun ac34 En35 => ?_
  refine then_normal ?_
  refine c_d (((n : Nat) : Int) > ((List.length l : Nat) : Int)) En35 (fun hc36 => ?_) (fun hc36 => ?_)
  ·
   refine wp_seq ?_
   refine region_from ?_
   refine d_k [0,1,4,20,22] [] 4 En35 fun ac37 En38 => ?_
   refine f_o ?_
   refine m_s 0 [.box br [.slice a (List.length l) c, .bool true, .bool o] 120] En38 Hv0 fun ac39 wo40 En41 Hv42 => ?_
   refine d_k [0,1,4,24] [] 7 En41 fun ac43 En44 => ?_
   refine f_o ?_
   refine m_s 0 [.box br [.slice none 0 0, .bool true, .bool o] 120] En44 Hv42 fun ac45 wo46 En47 Hv48 => ?_
   refine f_e ?_
   refine then_normal ?_
   refine d_s [0,1,4] [] En47 fun ac49 En50 => ?_
   refine wp_ret ?_
   refine then_ret ?_
   refine d_ret1 (t := 4) (v := .slice none 0 0) En50 (by kernel_rfl) (by kernel_rfl) ?_
   have eS : tkS n l s = true := by first | exact tk_s (by assumption) | exact tk_n (by omega)
   rw [tkO, tkR, eS]
   exact ⟨none, 0, none, 0, rfl, Hv48.pk [0], Sub.nil, Sub.nil⟩
  ·
   refine wp_skip ?_
   refine then_normal ?_
   refine wp_seq ?_
   refine region_from ?_
   refine d_k [0,1,4,27] [] 3 En35 fun ac51 En52 => ?_
   refine f_o ?_
   refine m_l 0 En52 Hv0 fun ac53 En54 => ?_
   refine d_k [0,1,4,28,29,30] [] 6 En54 fun ac55 En56 => ?_
   refine f_o ?_
   have hcap57 := i.cap
   refine op_val (d := some 31) (x := Instr.sliceAt 23 (.slice a (List.length l) c) none (some (ni n)) (some (ni n))) (v := .slice a n n) En56 (by kernel_rfl) (run_slicemx (e := 5) (sz := 1) (by kernel_rfl) (by kernel_rfl) a (List.length l) c n (by omega) .i64 .i64 _) ?_
   intro ac58 En59
   refine d_e [0,1,4,5] [] En59 fun ac60 En61 => ?_
   refine then_normal ?_
   refine wp_seq ?_
   refine region_from ?_
   refine d_k [0,1,4,5,32,35] [] 4 En61 fun ac62 En63 => ?_
   refine f_o ?_
   refine m_l 0 En63 Hv0 fun ac64 En65 => ?_
   refine d_k [0,1,4,5,32,36,37] [] 6 En65 fun ac66 En67 => ?_
   refine f_o ?_
   have hcap68 := i.cap
   refine op_slice (d := some 38) (t := 23) (e := 5) (sz := 1) (len := List.length l) (cap := c) (lo := n) (hi := List.length l) (ao := a) (lov := (some (ni n))) (hiv := none) En67 (by kernel_rfl) (by kernel_rfl) (by kernel_rfl) (by omega) (by omega) (.inr ⟨.i64, rfl⟩) (.inl ⟨rfl, rfl⟩) ?_
   intro ac69 En70
   refine d_k [0,1,4,5,38,40] [] 9 En70 fun ac71 En72 => ?_
   refine f_o ?_
   refine m_s 0 [.box br [.slice (cutAt a c n 1) ((List.length l) - n) (c - n), .bool s, .bool o] 120] En72 Hv0 fun ac73 wo74 En75 Hv76 => ?_
   refine f_e ?_
   refine then_normal ?_
   refine d_s [0,1,4] [] En75 fun ac77 En78 => ?_
   refine wp_ret ?_
   refine d_ret1 (t := 4) (v := .slice a n n) En78 (by kernel_rfl) (by kernel_rfl) ?_
   have eS : tkS n l s = false := tk_y (by assumption) (by omega)
   rw [tkO, tkR, eS, Bool.cond_false, Bool.cond_false]
   have hz := eS
   rw [show List.length l - n = List.length (List.drop n l) from List.length_drop.symm] at Hv76
   have es : s = false := Bool.eq_false_iff.2 (by assumption)
   subst es
   exact ⟨a, n, cutAt a c n 1, c - n, by rw [List.length_take, Nat.min_eq_left (by omega)], Hv76.pk [0], sub_mx n (by omega), sub_drop n (by omega)⟩

theorem number_go (w : World) (br : Nat) (n : Nat) (hn : n ≤ 4) (a : Option Addr) (c : Nat) (l : List UInt8) (s o : Bool) (i : InB w [.box br [.slice a (List.length l) c, .bool s, .bool o] 120] a c l) (hH : Heap w [.box br [.slice a (List.length l) c, .bool s, .bool o] 120]) : Calls Try.prog 102 #[pt br, ni n] w fun e w' => ∃ ta tc, e = .returned (.int .i64 ((nbV n l s : Nat) : Int)) ∧ Ev w [.box br [.slice a (List.length l) c, .bool s, .bool o] 120] w' [.box br [.slice ta (List.length (tkR n l s)) tc, .bool (tkS n l s), .bool o] 120] ∧ Sub a c l ta tc (tkR n l s) := by
 refine d_0 [(0, pt br), (1, ni n)] 23 Go.Proofs.Try.func102 Go.Proofs.Try.ntmps102 (hH) fun act0 En0 Hv0 => ?_
 refine d_s [0,1,4] [] En0 fun ac1 En2 => ?_
 refine d_s [0,1,4,5] [] En2 fun ac3 En4 => ?_
 refine wp_seq ?_
 refine wp_seq ?_
 refine region_from ?_
 refine d_k [4,5,8,9] [] 2 En4 fun ac5 En6 => ?_
 refine f_o ?_
 refine c_l [0] (M := [.box br [.slice a (List.length l) c, .bool s, .bool o] 120]) En6 Hv0 (fun hM13 => take_go _ br n (by omega) a c l s o ((i.ev Hv0).pick [0] (by kernel_rfl)) hM13) ?_
 rintro _ wo14 ⟨ra7, rc8, ta9, tc10, rfl, he15, hs11, hs12⟩
 refine ⟨_, _, [.box br [.slice ta9 (List.length (tkR n l s)) tc10, .bool (tkS n l s), .bool o] 120], rfl, he15, by kernel_rfl, fun ac17 En18 Hv19 => ?_⟩
 refine d_e [4,5,10,11,12] [] En18 fun ac20 En21 => ?_
 have hO := tkO_len n l s
 refine then_normal ?_
 refine wp_block ?_
 refine loop_m (fun ms22 ac wo => ∃ (j : Nat) (v : Nat), ms22 = (List.length (tkO n l s) - j : Nat) ∧ Env ac 23 [(4, .int .i64 0), (5, ni v), (10, .slice ra7 (List.length (tkO n l s)) rc8), (11, .int .i64 ((List.length (tkO n l s) : Nat) : Int)), (12, ni j)] ∧ Ev w [.box br [.slice a (List.length l) c, .bool s, .bool o] 120] wo [.box br [.slice ta9 (List.length (tkR n l s)) tc10, .bool (tkS n l s), .bool o] 120] ∧ (j ≤ List.length (tkO n l s)) ∧ (v = beV (List.take j (tkO n l s))) ∧ (v < 4294967296)) ⟨_, 0, 0, rfl, En21.sb, Hv19.pk [0], (by omega), rfl, (by omega)⟩ ?_
 rintro mm28 ac24 wo25 ⟨j, v, rfl, En26, Hv27, hj, hv, hb⟩
 refine d_s [4,5,10,11,12,13] [] En26 fun ac29 En30 => ?_
 refine wp_seq ?_
 refine c_d (((j : Nat) : Int) < ((List.length (tkO n l s) : Nat) : Int)) En30 (fun hc31 => ?_) (fun hc31 => ?_)
 ·
  refine wp_skip ?_
  refine then_normal ?_
  refine wp_seq ?_
  refine wp_block ?_
  have hb34 : j < List.length (tkO n l s) := (by omega)
  obtain ⟨adr32, had33⟩ := some_of ((hs11 _ [] ((i.ev Hv27).pick [] (by kernel_rfl)))).nz hb34
  refine wp_seq ?_
  refine region_from ?_
  refine f_o ?_
  refine q_v (x := Instr.indexAt 23 (.slice ra7 (List.length (tkO n l s)) rc8) (ni j)) (v := .pointer (some (Addr.add adr32 j))) En30 (Go.Dbr.run_indexsl (e := 5) (sz := 1) (j := j) (jo := j) had33 (by kernel_rfl) (by kernel_rfl) (by omega) hb34 (Nat.mul_one _) _) fun ac35 En36 => ?_
  refine f_o ?_
  have hb37 : j < List.length (tkO n l s) := by omega
  refine op_loadel (d := some 15) (t := 5) (ad := adr32) (ao := ra7) (xs := bys (tkO n l s)) (j := j) (v := .int .u8 ((UInt8.toNat (List.getD (tkO n l s) j 0) : Nat) : Int)) En36 (by kernel_rfl) ((hs11 _ [] ((i.ev Hv27).pick [] (by kernel_rfl)))).reads had33 (bys_getD hb37) (by kernel_rfl) ?_
  intro ac38 En39
  refine d_e [4,5,7,10,11,12] [] En39 fun ac40 En41 => ?_
  have hub := u8_lt (List.getD (tkO n l s) j 0)
  refine then_normal ?_
  refine d_r [4,5,10,11,12] [(1, g_n (w_r (e := ((v : Nat) : Int) * 2 ^ 8) (x := ((v * 256 : Nat) : Int)) (by omega))), (3, g_i .i64 (Go.Dbr.u8_to_i64 (x := List.getD (tkO n l s) j 0) rfl)), (4, g_i .i64 (Go.Dbr.i64_or_low (x := v) (y := UInt8.toNat (List.getD (tkO n l s) j 0)) 8 (by omega) (by omega)))] En41 fun ac42 En43 => ?_
  refine block_normal ?_
  refine then_normal ?_
  refine d_r [4,5,10,11,12] [(0, g_n (w_a j 1))] En43 fun ac44 En45 => ?_
  refine then_normal ?_
  refine ⟨_, ⟨j + 1, v * 256 + (UInt8.toNat (List.getD (tkO n l s) j 0)), rfl, En45.sb, Hv27.pk [0], (by omega), (by rw [hv]; exact (beV_take (by omega)).symm), (by have h4 := beV_4 (l := List.take (j + 1) (tkO n l s)) (by rw [List.length_take]; omega); rw [beV_take (by omega), ← hv] at h4; exact h4)⟩, ?_⟩
  omega
 ·
  refine wp_exit ?_
  refine then_exit ?_
  refine then_exit ?_
  refine block_exit ?_
  refine then_normal ?_
  refine d_s [4,5,10,11,12] [] En30 fun ac46 En47 => ?_
  refine wp_ret ?_
  refine d_ret1 (t := 4) (v := ni v) En47 (by kernel_rfl) (by kernel_rfl) ?_
  have hje : List.take j (tkO n l s) = tkO n l s := List.take_of_length_le (by omega)
  rw [hje] at hv
  exact ⟨ta9, tc10, by rw [hv]; rfl, Hv27.pk [0], hs12⟩

theorem clone_go (w : World) (a : Option Addr) (c : Nat) (l : List UInt8) (i : InB w [] a c l) : Calls Try.prog 103 #[.slice a (List.length l) c] w fun e w' => ∃ ao cap, e = .returned (.slice ao (List.length l) cap) ∧ Ev w [] w' [.vec ao cap 1 (bys l) 5] := by
 refine d_0 [(0, .slice a (List.length l) c)] 8 Go.Proofs.Try.func103 Go.Proofs.Try.ntmps103 (Heap.nil _) fun act0 En0 Hv0 => ?_
 refine d_s [0,2] [] En0 fun ac1 En2 => ?_
 refine wp_seq ?_
 refine wp_seq ?_
 refine region_from ?_
 refine d_k [0,2,3] [] 1 En2 fun ac3 En4 => ?_
 refine f_o ?_
 refine q_v (x := binOp .eql 23 (.slice a (List.length l) c) (.slice none 0 0)) (v := .bool (Option.isNone a)) En4 (Go.Dbr.run_slicenil (e := 5) (by kernel_rfl) a (List.length l) c _) fun ac5 En6 => ?_
 refine f_e ?_
 refine then_normal ?_
 refine cond_at En6 (t := Option.isNone a) (by kernel_rfl) (fun hc7 => ?_) (fun hc7 => ?_)
 ·
  replace hc7 : Option.isNone a = true := hc7
  refine d_s [0,2] [] En6 fun ac8 En9 => ?_
  refine wp_ret ?_
  refine then_ret ?_
  refine d_ret1 (t := 2) (v := .slice none 0 0) En9 (by kernel_rfl) (by kernel_rfl) ?_
  have hl0 : l = [] := List.length_eq_zero_iff.1 (i.nz (Option.isNone_iff_eq_none.1 hc7))
  subst hl0
  exact ⟨none, 0, rfl, (Ev.nil (sz := 1) (T := 5) Hv0).pk [0]⟩
 ·
  replace hc7 : ¬ (Option.isNone a = true) := Bool.eq_false_iff.1 hc7
  refine wp_skip ?_
  refine then_normal ?_
  refine wp_seq ?_
  refine region_from ?_
  refine f_o ?_
  refine op_lit (d := some 5) (t := 23) (T := 5) (m := 0) (parts := #[]) (xs := bys []) (sz := 1) En6 (by kernel_rfl) (by kernel_rfl) rfl (by decide) Hv0 ?_
  intro ac11 wo12 bk10 En13 Hv14
  refine d_k [0,2,5,6] [] 2 En13 fun ac15 En16 => ?_
  refine f_o ?_
  have hsm17 := i.small
  refine op_append (d := some 7) (t := 23) (tx := 23) (ty := 23) (k := 0) (p := 0) (m := List.length l) (x := .slice a (List.length l) c) (bytes := 1) En16 (by kernel_rfl) Hv14 rfl rfl (Reads.src (size := 1) (tx := 23) (e' := 5) (by kernel_rfl) (i.ev Hv14).reads (bys_len _) i.nz (bys_one _)) (by kernel_rfl) (z := .int .u8 0) (by kernel_rfl) rfl (by decide) (by have := i.small; omega) (by unfold maxLen; omega) ?_
  intro ac22 wo23 ao18 cp19 En24 Hv25 hnz _
  clear hnz
  rw [bys_nil_append] at Hv25
  have ehz20 : 0 + (List.length l) = List.length l := (by first | (simp; done) | (simp; omega) | omega)
  rw [ehz20] at En24
  refine d_e [0,2] [] En24 fun ac26 En27 => ?_
  refine then_normal ?_
  refine wp_ret ?_
  refine d_ret1 (t := 2) (v := .slice ao18 (List.length l) cp19) En27 (by kernel_rfl) (by kernel_rfl) ?_
  exact ⟨ao18, cp19, rfl, Hv25.pk [0]⟩

def lsT (n x y : Nat) (l : Bs) (s : Bool) : Bool := tkS n l s || (decide (nbV n l s < x) || decide (y < nbV n l s))
def lsO (n x y : Nat) (l : Bs) (s : Bool) : Bs := tkO (nbV n l s) (tkR n l s) (lsT n x y l s)
def lsR (n x y : Nat) (l : Bs) (s : Bool) : Bs := tkR (nbV n l s) (tkR n l s) (lsT n x y l s)
def lsS (n x y : Nat) (l : Bs) (s : Bool) : Bool := tkS (nbV n l s) (tkR n l s) (lsT n x y l s)
theorem lsT_1 {n x y : Nat} {l : Bs} {s : Bool} (h : nbV n l s < x) : lsT n x y l s = true := by rw [lsT, decide_eq_true h, Bool.true_or, Bool.or_true]
theorem lsT_2 {n x y : Nat} {l : Bs} {s : Bool} (h : y < nbV n l s) : lsT n x y l s = true := by rw [lsT, decide_eq_true h, Bool.or_true, Bool.or_true]
theorem lsT_0 {n x y : Nat} {l : Bs} {s : Bool} (h1 : ¬ nbV n l s < x) (h2 : ¬ y < nbV n l s) : lsT n x y l s = tkS n l s := by rw [lsT, decide_eq_false h1, decide_eq_false h2, Bool.or_false, Bool.or_false]
theorem lsR_len (n x y : Nat) (l : Bs) (s : Bool) : (lsR n x y l s).length ≤ l.length := Nat.le_trans (tkR_len _ _ _) (tkR_len _ _ _)

theorem list_go (w : World) (br : Nat) (n : Nat) (hn : n ≤ 4) (x y : Nat) (hx : x ≤ 4294967295) (hy : y ≤ 4294967295) (a : Option Addr) (c : Nat) (l : List UInt8) (s o : Bool) (i : InB w [.box br [.slice a (List.length l) c, .bool s, .bool o] 120] a c l) (hH : Heap w [.box br [.slice a (List.length l) c, .bool s, .bool o] 120]) : Calls Try.prog 137 #[pt br, ni n, ni x, ni y] w fun e w' => ∃ ao cap ta tc, e = .returned (.slice ao (List.length (lsO n x y l s)) cap) ∧ Ev w [.box br [.slice a (List.length l) c, .bool s, .bool o] 120] w' [.box br [.slice ta (List.length (lsR n x y l s)) tc, .bool (lsS n x y l s), .bool o] 120, .vec ao cap 1 (bys (lsO n x y l s)) 5] ∧ Sub a c l ta tc (lsR n x y l s) := by
 refine d_0 [(0, pt br), (1, ni n), (2, ni x), (3, ni y)] 28 Go.Proofs.Try.func137 Go.Proofs.Try.ntmps137 (hH) fun act0 En0 Hv0 => ?_
 refine d_s [0,1,2,3,8] [] En0 fun ac1 En2 => ?_
 refine wp_seq ?_
 refine region_from ?_
 refine d_k [0,2,3,8,10,11] [] 2 En2 fun ac3 En4 => ?_
 refine f_o ?_
 refine c_l [0] (M := [.box br [.slice a (List.length l) c, .bool s, .bool o] 120]) En4 Hv0 (fun hM8 => number_go _ br n (by omega) a c l s o ((i.ev Hv0).pick [0] (by kernel_rfl)) hM8) ?_
 rintro _ wo9 ⟨ta5, tc6, rfl, he10, hs7⟩
 refine ⟨_, _, [.box br [.slice ta5 (List.length (tkR n l s)) tc6, .bool (tkS n l s), .bool o] 120], rfl, he10, by kernel_rfl, fun ac12 En13 Hv14 => ?_⟩
 refine d_e [0,2,3,8,9] [] En13 fun ac15 En16 => ?_
 have hk4 := nbV_4 hn l s
 refine then_normal ?_
 refine wp_seq ?_
 refine wp_seq ?_
 refine region_from ?_
 refine d_k [0,3,8,9,16] [] 4 En16 fun ac17 En18 => ?_
 rcases Bool.eq_false_or_eq_true (decide (((nbV n l s : Nat) : Int) < ((x : Nat) : Int))) with hb19 | hb19
 ·
  have En20 := En18.fx (t := 16) (congrArg Value.bool hb19)
  have hp21 : ((nbV n l s : Nat) : Int) < ((x : Nat) : Int) := of_decide_eq_true hb19
  refine d_e [0,8,9,20] [] En20 fun ac22 En23 => ?_
  refine then_normal ?_
  refine c_t En23 ?_
  refine region_from ?_
  refine d_k [0,8,9,23] [] 3 En23 fun ac24 En25 => ?_
  refine f_o ?_
  refine m_s 0 [.box br [.slice ta5 (List.length (tkR n l s)) tc6, .bool true, .bool o] 120] En25 Hv14 fun ac26 wo27 En28 Hv29 => ?_
  refine f_e ?_
  refine then_normal ?_
  refine wp_seq ?_
  refine region_from ?_
  refine d_k [0,8,9,24,25] [] 2 En28 fun ac30 En31 => ?_
  refine f_o ?_
  refine c_l [0] (M := [.box br [.slice ta5 (List.length (tkR n l s)) tc6, .bool true, .bool o] 120]) En31 Hv29 (fun hM38 => take_go _ br (nbV n l s) (by omega) ta5 tc6 (tkR n l s) true o (hs7 _ _ ((i.ev Hv29).pick [0] (by kernel_rfl))) hM38) ?_
  rintro _ wo39 ⟨ra32, rc33, ta34, tc35, rfl, he40, hs36, hs37⟩
  refine ⟨_, _, [.box br [.slice ta34 (List.length (tkR (nbV n l s) (tkR n l s) true)) tc35, .bool (tkS (nbV n l s) (tkR n l s) true), .bool o] 120], rfl, he40, by kernel_rfl, fun ac42 En43 Hv44 => ?_⟩
  refine f_o ?_
  refine c_0 En43 Hv44 (clone_go _ ra32 rc33 (tkO (nbV n l s) (tkR n l s) true) (hs36 _ [] (hs7 _ [] ((i.ev Hv44).pick [] (by kernel_rfl))))) ?_
  rintro _ wo48 ⟨ao45, cp46, rfl, he49⟩
  refine ⟨_, _, _, rfl, he49, rfl, fun ac51 En52 Hv53 => ?_⟩
  refine d_e [0,8,9] [] En52 fun ac54 En55 => ?_
  refine then_normal ?_
  refine wp_ret ?_
  refine d_ret1 (t := 8) (v := .slice ao45 (List.length (tkO (nbV n l s) (tkR n l s) true)) cp46) En55 (by kernel_rfl) (by kernel_rfl) ?_
  have eT : lsT n x y l s = true := by first | exact lsT_1 (by omega) | exact lsT_2 (by omega) | exact lsT_0 (by omega) (by omega)
  simp only [lsO, lsR, lsS, eT]
  exact ⟨ao45, cp46, ta34, tc35, rfl, Hv53.pk [1, 0], (hs7.trans hs37)⟩
 ·
  have En56 := En18.fx (t := 16) (congrArg Value.bool hb19)
  have hp57 : ¬ (((nbV n l s : Nat) : Int) < ((x : Nat) : Int)) := of_decide_eq_false hb19
  refine d_e [0,8,9,20] [] En56 fun ac58 En59 => ?_
  refine then_normal ?_
  refine c_d (((nbV n l s : Nat) : Int) > ((y : Nat) : Int)) En59 (fun hc60 => ?_) (fun hc60 => ?_)
  ·
   refine region_from ?_
   refine d_k [0,8,9,23] [] 3 En59 fun ac61 En62 => ?_
   refine f_o ?_
   refine m_s 0 [.box br [.slice ta5 (List.length (tkR n l s)) tc6, .bool true, .bool o] 120] En62 Hv14 fun ac63 wo64 En65 Hv66 => ?_
   refine f_e ?_
   refine then_normal ?_
   refine wp_seq ?_
   refine region_from ?_
   refine d_k [0,8,9,24,25] [] 2 En65 fun ac67 En68 => ?_
   refine f_o ?_
   refine c_l [0] (M := [.box br [.slice ta5 (List.length (tkR n l s)) tc6, .bool true, .bool o] 120]) En68 Hv66 (fun hM75 => take_go _ br (nbV n l s) (by omega) ta5 tc6 (tkR n l s) true o (hs7 _ _ ((i.ev Hv66).pick [0] (by kernel_rfl))) hM75) ?_
   rintro _ wo76 ⟨ra69, rc70, ta71, tc72, rfl, he77, hs73, hs74⟩
   refine ⟨_, _, [.box br [.slice ta71 (List.length (tkR (nbV n l s) (tkR n l s) true)) tc72, .bool (tkS (nbV n l s) (tkR n l s) true), .bool o] 120], rfl, he77, by kernel_rfl, fun ac79 En80 Hv81 => ?_⟩
   refine f_o ?_
   refine c_0 En80 Hv81 (clone_go _ ra69 rc70 (tkO (nbV n l s) (tkR n l s) true) (hs73 _ [] (hs7 _ [] ((i.ev Hv81).pick [] (by kernel_rfl))))) ?_
   rintro _ wo85 ⟨ao82, cp83, rfl, he86⟩
   refine ⟨_, _, _, rfl, he86, rfl, fun ac88 En89 Hv90 => ?_⟩
   refine d_e [0,8,9] [] En89 fun ac91 En92 => ?_
   refine then_normal ?_
   refine wp_ret ?_
   refine d_ret1 (t := 8) (v := .slice ao82 (List.length (tkO (nbV n l s) (tkR n l s) true)) cp83) En92 (by kernel_rfl) (by kernel_rfl) ?_
   have eT : lsT n x y l s = true := by first | exact lsT_1 (by omega) | exact lsT_2 (by omega) | exact lsT_0 (by omega) (by omega)
   simp only [lsO, lsR, lsS, eT]
   exact ⟨ao82, cp83, ta71, tc72, rfl, Hv90.pk [1, 0], (hs7.trans hs74)⟩
  ·
   refine wp_skip ?_
   refine then_normal ?_
   refine wp_seq ?_
   refine region_from ?_
   refine d_k [0,8,9,24,25] [] 2 En59 fun ac93 En94 => ?_
   refine f_o ?_
   refine c_l [0] (M := [.box br [.slice ta5 (List.length (tkR n l s)) tc6, .bool (tkS n l s), .bool o] 120]) En94 Hv14 (fun hM101 => take_go _ br (nbV n l s) (by omega) ta5 tc6 (tkR n l s) (tkS n l s) o (hs7 _ _ ((i.ev Hv14).pick [0] (by kernel_rfl))) hM101) ?_
   rintro _ wo102 ⟨ra95, rc96, ta97, tc98, rfl, he103, hs99, hs100⟩
   refine ⟨_, _, [.box br [.slice ta97 (List.length (tkR (nbV n l s) (tkR n l s) (tkS n l s))) tc98, .bool (tkS (nbV n l s) (tkR n l s) (tkS n l s)), .bool o] 120], rfl, he103, by kernel_rfl, fun ac105 En106 Hv107 => ?_⟩
   refine f_o ?_
   refine c_0 En106 Hv107 (clone_go _ ra95 rc96 (tkO (nbV n l s) (tkR n l s) (tkS n l s)) (hs99 _ [] (hs7 _ [] ((i.ev Hv107).pick [] (by kernel_rfl))))) ?_
   rintro _ wo111 ⟨ao108, cp109, rfl, he112⟩
   refine ⟨_, _, _, rfl, he112, rfl, fun ac114 En115 Hv116 => ?_⟩
   refine d_e [0,8,9] [] En115 fun ac117 En118 => ?_
   refine then_normal ?_
   refine wp_ret ?_
   refine d_ret1 (t := 8) (v := .slice ao108 (List.length (tkO (nbV n l s) (tkR n l s) (tkS n l s))) cp109) En118 (by kernel_rfl) (by kernel_rfl) ?_
   have eT : lsT n x y l s = tkS n l s := by first | exact lsT_1 (by omega) | exact lsT_2 (by omega) | exact lsT_0 (by omega) (by omega)
   simp only [lsO, lsR, lsS, eT]
   exact ⟨ao108, cp109, ta97, tc98, rfl, Hv116.pk [1, 0], (hs7.trans hs100)⟩

end Go.Proofs.Ytofecellbfhnjaa

/- Layer 17: the document's readers. -/

namespace Go.Proofs.Ytofecellbfhnjaa
open Go.Dbr
set_option maxRecDepth 100000
set_option maxHeartbeats 2000000
set_option linter.unusedVariables false
set_option linter.unusedSimpArgs false

def endV (s : Bool) (n : Nat) (o : Bool) : Int := if s = true ∨ 0 < n then 50 else if o = true then 47 else 0
theorem end_1 {s : Bool} {n : Nat} {o : Bool} (h : s = true) : (50 : Int) = endV s n o := by rw [endV, if_pos (.inl h)]
theorem end_2 {s : Bool} {n : Nat} {o : Bool} (h : 0 < n) : (50 : Int) = endV s n o := by rw [endV, if_pos (.inr h)]
theorem end_3 {s : Bool} {n : Nat} {o : Bool} (h : ¬ s = true) (h2 : ¬ 0 < n) (h3 : o = true) : (47 : Int) = endV s n o := by rw [endV, if_neg (fun g => g.elim h h2), if_pos h3]
theorem end_4 {s : Bool} {n : Nat} {o : Bool} (h : ¬ s = true) (h2 : ¬ 0 < n) (h3 : ¬ o = true) : (0 : Int) = endV s n o := by rw [endV, if_neg (fun g => g.elim h h2), if_neg h3]

end Go.Proofs.Ytofecellbfhnjaa

/- Slices of structs that are made; parts of a list that are read one by one. -/

namespace Go.Dbr
open Go Go.RowKit
section
variable {α : Type}
theorem sv_len {f : α → List Value} {sz : Nat} (hf : ∀ x, (f x).length = sz) : ∀ l : List α, (l.flatMap f).length = l.length * sz
  | [] => by simp
  | y :: r => by rw [List.flatMap_cons, List.length_append, hf, sv_len hf r, List.length_cons, Nat.succ_mul, Nat.add_comm]
theorem flat_one {f : α → List Value} (hf : ∀ x, ∀ u ∈ f x, u.oneCell' = true) (l : List α) : ∀ u ∈ l.flatMap f, u.oneCell' = true := fun u hu => by
  obtain ⟨x, _, hx⟩ := List.mem_flatMap.1 hu
  exact hf x u hx

/-! parts, one by one -/
abbrev PS := List UInt8 × Bool × Bool
def mnf (one : List UInt8 → Bool → Bool → α × PS) : Nat → PS → List α × PS
  | 0, p => ([], p)
  | f + 1, p => if p.2.1 = true ∨ p.1 = [] then ([], p) else ((one p.1 p.2.1 p.2.2).1 :: (mnf one f (one p.1 p.2.1 p.2.2).2).1, (mnf one f (one p.1 p.2.1 p.2.2).2).2)
def mn (one : List UInt8 → Bool → Bool → α × PS) (p : PS) : List α × PS := mnf one p.1.length p
/-- each part takes something -/
structure Dec (one : List UInt8 → Bool → Bool → α × PS) : Prop where
  lt : ∀ l o, l ≠ [] → (one l false o).2.2.1 = false → (one l false o).2.1.length < l.length
  le : ∀ l o, (one l false o).2.1.length ≤ l.length
variable {one : List UInt8 → Bool → Bool → α × PS}
theorem mnf_end {p : PS} (h : p.2.1 = true ∨ p.1 = []) : ∀ f, mnf one f p = ([], p)
  | 0 => rfl
  | f + 1 => by rw [mnf, if_pos h]
theorem mnf_any (D : Dec one) : ∀ (n : Nat) (p : PS), p.1.length ≤ n → ∀ f g, p.1.length ≤ f → p.1.length ≤ g → mnf one f p = mnf one g p
  | n, p, hn, f, g, hf, hg => by
    by_cases h : p.2.1 = true ∨ p.1 = []
    · rw [mnf_end h, mnf_end h]
    · have hs : p.2.1 = false := by
        cases e : p.2.1 with
        | true => exact absurd (.inl e) h
        | false => rfl
      have hl : p.1 ≠ [] := fun e => h (.inr e)
      have h0 : 0 < p.1.length := List.length_pos_iff.2 hl
      match n, f, g, hn, hf, hg with
      | 0, _, _, hn, _, _ => omega
      | n + 1, 0, _, _, hf, _ => omega
      | n + 1, f + 1, 0, _, _, hg => omega
      | n + 1, f + 1, g + 1, hn, hf, hg =>
        rw [mnf, mnf, if_neg h, if_neg h]
        have key : mnf one f (one p.1 p.2.1 p.2.2).2 = mnf one g (one p.1 p.2.1 p.2.2).2 := by
          rw [hs]
          by_cases hq : (one p.1 false p.2.2).2.2.1 = true
          · rw [mnf_end (.inl hq), mnf_end (.inl hq)]
          · have := D.lt p.1 p.2.2 hl (Bool.eq_false_iff.2 hq)
            exact mnf_any D n _ (by omega) f g (by omega) (by omega)
        rw [key]
theorem mn_end {p : PS} (h : p.2.1 = true ∨ p.1 = []) : mn one p = ([], p) := mnf_end h _
theorem mn_step (D : Dec one) {l : List UInt8} {s o : Bool} (hs : s = false) (h0 : 0 < l.length) : mn one (l, s, o) = ((one l s o).1 :: (mn one (one l s o).2).1, (mn one (one l s o).2).2) := by
  subst hs
  have hl : l ≠ [] := List.length_pos_iff.1 h0
  have hn : ¬ (((l, false, o) : PS).2.1 = true ∨ ((l, false, o) : PS).1 = []) := fun g => g.elim (fun e => by cases e) hl
  have e : mn one (l, false, o) = mnf one ((l.length - 1) + 1) (l, false, o) := by
    show mnf one l.length (l, false, o) = _
    rw [show l.length - 1 + 1 = l.length by omega]
  rw [e, mnf, if_neg hn]
  have key : mnf one (l.length - 1) (one l false o).2 = mn one (one l false o).2 := by
    by_cases hq : (one l false o).2.2.1 = true
    · rw [mnf_end (.inl hq), mn_end (.inl hq)]
    · have := D.lt l o hl (Bool.eq_false_iff.2 hq)
      exact mnf_any D _ _ (Nat.le_refl _) _ _ (by omega) (Nat.le_refl _)
  show ((one l false o).1 :: (mnf one (l.length - 1) (one l false o).2).1, (mnf one (l.length - 1) (one l false o).2).2) = _
  rw [key]
end
end Go.Dbr
