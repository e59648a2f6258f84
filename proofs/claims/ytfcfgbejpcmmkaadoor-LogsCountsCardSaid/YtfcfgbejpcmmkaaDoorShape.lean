/- What is handed in to a law, of any shape that is read alone: numbers, texts, structs, arrays, slices of them. -/
import Derived.Test.YtfcfgbejpcmmkaaDoorOpen
import Derived.Test.YtfcfgbejpcmmkaaDoorRows
import Derived.Deep.Slices
import Derived.ChangeArms
namespace Go.Dbr
open Go Go.RowKit Go.ChangeShapes Go.WideShapes Go.ChangeAt

structure Sl (α : Type) where
  a : Option Addr
  c : Nat
  l : List α
def Sl.val {α : Type} (s : Sl α) : Value := .slice s.a s.l.length s.c
def Sl.f {α : Type} (s : Sl α) : List Value := [.slice s.a s.l.length s.c]

/-- a slice that is read alone, its elements of sz cells each -/
structure InS {α : Type} (f : α → List Value) (by_ : Nat) (ok : α → Prop) (w : World) (L : List Ent) (a : Option Addr) (c : Nat) (l : List α) : Prop where
  ro : Ro w L a (l.flatMap f)
  nz : a = none → l.length = 0
  cap : l.length ≤ c
  small : l.length * by_ ≤ 140737488351232
  each : ∀ x ∈ l, ok x

theorem InS.ev {α : Type} {f : α → List Value} {b : Nat} {ok ok' : α → Prop} {w w' : World} {L L' : List Ent} {a : Option Addr} {c : Nat} {l : List α} (h : InS f b ok w L a c l) (e : Ev w L w' L') (ho : ∀ x, ok x → ok' x) : InS f b ok' w' L' a c l := ⟨h.ro.ev e, h.nz, h.cap, h.small, fun x hx => ho x (h.each x hx)⟩
theorem InS.of {α : Type} {f : α → List Value} {b : Nat} {ok ok' : α → Prop} {w : World} {L M : List Ent} {a : Option Addr} {c : Nat} {l : List α} (h : InS f b ok w L a c l) (hm : ∀ b, Owns M b → Owns L b) (ho : ∀ x, ok x → ok' x) : InS f b ok' w M a c l := ⟨h.ro.of hm, h.nz, h.cap, h.small, fun x hx => ho x (h.each x hx)⟩
theorem InS.go {α : Type} {f : α → List Value} {b : Nat} {ok ok' : α → Prop} {w w' : World} {L L' M : List Ent} {a : Option Addr} {c : Nat} {l : List α} (h : InS f b ok w L a c l) (e : Ev w L w' L') (is : List Nat) (hm : M.map some = is.map (fun i => L'[i]?)) (ho : ∀ x, ok x → ok' x) : InS f b ok' w' M a c l := ⟨(h.ro.ev e).pick is hm, h.nz, h.cap, h.small, fun x hx => ho x (h.each x hx)⟩
theorem InS.take {α : Type} {f : α → List Value} {b : Nat} {ok : α → Prop} {w : World} {L : List Ent} {a : Option Addr} {c : Nat} {l : List α} (h : InS f b ok w L a c l) (n : Nat) : InS f b ok w L a c (l.take n) := by
  refine ⟨?_, fun e => by rw [List.length_take, h.nz e]; exact Nat.min_zero _, by have := h.cap; simp; omega, Nat.le_trans (Nat.mul_le_mul_right _ (by simp; omega)) h.small, fun x hx => h.each x (List.mem_of_mem_take hx)⟩
  have e : (l.take n).flatMap f = (l.flatMap f).take ((l.take n).flatMap f).length := by
    have e : l.flatMap f = (l.take n).flatMap f ++ (l.drop n).flatMap f := by rw [← List.flatMap_append, List.take_append_drop]
    rw [e, List.take_left' rfl]
  refine ⟨?_, fun ad ha hx => h.ro.off ad ha fun h0 => hx ?_⟩
  · rw [e]; exact h.ro.reads.take _
  · rw [e, h0]; simp
theorem InS.reads {α : Type} {f : α → List Value} {b : Nat} {ok : α → Prop} {w : World} {L : List Ent} {a : Option Addr} {c : Nat} {l : List α} (h : InS f b ok w L a c l) : Reads w a (l.flatMap f) := h.ro.reads

theorem flat_len {α : Type} {f : α → List Value} {sz : Nat} : ∀ {l : List α}, (∀ x ∈ l, (f x).length = sz) → (l.flatMap f).length = l.length * sz
  | [], _ => by simp
  | x :: r, h => by
    rw [List.flatMap_cons, List.length_append, h x (by simp), flat_len fun y hy => h y (by simp [hy]), List.length_cons, Nat.add_mul]
    omega

theorem flat_get {α : Type} {f : α → List Value} {sz : Nat} : ∀ {l : List α} {i j : Nat} {x : α}, (∀ x ∈ l, (f x).length = sz) → l[i]? = some x → j < sz → (l.flatMap f)[i * sz + j]? = (f x)[j]?
  | [], i, j, x, _, h, _ => by simp at h
  | y :: r, 0, j, x, hl, h, hj => by
    simp only [List.getElem?_cons_zero, Option.some.injEq] at h
    subst h
    rw [List.flatMap_cons, Nat.zero_mul, Nat.zero_add, List.getElem?_append_left (by rw [hl y (by simp)]; exact hj)]
  | y :: r, i + 1, j, x, hl, h, hj => by
    rw [List.getElem?_cons_succ] at h
    rw [List.flatMap_cons, List.getElem?_append_right (by rw [hl y (by simp), Nat.add_mul]; omega), hl y (by simp)]
    have e : (i + 1) * sz + j - sz = i * sz + j := by rw [Nat.add_mul]; omega
    rw [e]
    exact flat_get (fun x hx => hl x (by simp [hx])) h hj

theorem flat_get1 {α : Type} {f : α → List Value} {l : List α} {i : Nat} {x : α} (hl : ∀ x ∈ l, (f x).length = 1) (h : l[i]? = some x) : (l.flatMap f)[i]? = (f x)[0]? := by
  have := flat_get hl h (j := 0) (by decide)
  rwa [Nat.mul_one, Nat.add_zero] at this
theorem flat_sub {α : Type} {f : α → List Value} {sz off m : Nat} {l : List α} {i : Nat} {x : α} {xs : List Value} (hl : ∀ x ∈ l, (f x).length = sz) (h : l[i]? = some x) (hm : off + m ≤ sz) (hx : ((f x).drop off).take m = xs) : ∀ j, j < m → (l.flatMap f)[i * sz + off + j]? = xs[j]? := by
  intro j hj
  rw [Nat.add_assoc, flat_get hl h (by omega), ← hx, List.getElem?_take, if_pos hj, List.getElem?_drop]
theorem flat_get_inv {α : Type} {f : α → List Value} {sz : Nat} : ∀ {l : List α} {j : Nat} {u : Value}, (∀ x ∈ l, (f x).length = sz) → (l.flatMap f)[j]? = some u → ∃ i k x, j = i * sz + k ∧ k < sz ∧ l[i]? = some x ∧ (f x)[k]? = some u
  | [], j, u, _, h => by simp at h
  | y :: r, j, u, hl, h => by
    rw [List.flatMap_cons] at h
    by_cases hj : j < sz
    · rw [List.getElem?_append_left (by rw [hl y (by simp)]; exact hj)] at h
      exact ⟨0, j, y, by omega, hj, rfl, h⟩
    · rw [List.getElem?_append_right (by rw [hl y (by simp)]; omega), hl y (by simp)] at h
      obtain ⟨i, k, x, h1, h2, h3, h4⟩ := flat_get_inv (fun x hx => hl x (by simp [hx])) h
      exact ⟨i + 1, k, x, by rw [Nat.add_mul]; omega, h2, by simpa using h3, h4⟩

section
variable {H : Type} (enc : TypeId × Value → H) (P : Program) (W : World)

def Opens {α : Type} (T : TypeId) (sz : Nat) (f : α → List Value) (ok : α → Prop) (m : α → Nat) : Prop :=
  P.cellsOf T = sz ∧ (∀ x, ok x → (f x).length = sz) ∧ ∀ (fuel : Nat) (cs : List Value) (x : DataW H × List MemPlace), DataW.trod enc P W 0 (fun _ => true) true fuel T cs = some x → (∀ n ∈ x.1.weights P T, n ≤ reachBytes) → ∃ y : α, cs = f y ∧ ok y ∧ m y + 1 ≤ Go.Proofs.YtfcfgbejpcmmkaaDoor.Rows.uptoBulk x.1

/-- the fields from an offset on -/
def OpensF {α : Type} (fs : List Field) (off sz : Nat) (f : α → List Value) (ok : α → Prop) (m : α → Nat) : Prop :=
  (∀ x, ok x → (f x).length = sz) ∧ ∀ (fuel : Nat) (cs : List Value) (xs : List (DataW H × List MemPlace)), xs.length = fs.length → cs.length = off + sz →
    (∀ (i : Nat) (g : Field), fs[i]? = some g → DataW.trod enc P W 0 (fun _ => true) true fuel g.type ((cs.drop g.offset).take (P.cellsOf g.type)) = xs[i]?) →
    (∀ n ∈ DataW.weightsEach P (fs.map (·.type)) (xs.map (·.1)), n ≤ reachBytes) → ∃ y : α, cs.drop off = f y ∧ ok y ∧ m y ≤ Go.Proofs.YtfcfgbejpcmmkaaDoor.Rows.uptoBulkAll (xs.map (·.1))
end

section
variable {H : Type} {enc : TypeId × Value → H} {P : Program} {W : World}

theorem bulk_le {H : Type} : ∀ {l : List (DataW H)} {n : Nat} {g : Nat → Nat}, n ≤ l.length → (∀ i d, i < n → l[i]? = some d → g i + 1 ≤ Go.Proofs.YtfcfgbejpcmmkaaDoor.Rows.uptoBulk d) → ((List.range n).map fun i => g i + 1).sum ≤ Go.Proofs.YtfcfgbejpcmmkaaDoor.Rows.uptoBulkAll l
  | _, 0, g, _, _ => by simp
  | [], n + 1, g, h, _ => by simp at h
  | d :: r, n + 1, g, h, hg => by
    have h0 := hg 0 d (by omega) rfl
    have ih := bulk_le (l := r) (n := n) (g := fun i => g (i + 1)) (by simpa using h) fun i e hi he => hg (i + 1) e (by omega) (by simpa using he)
    rw [List.range_succ_eq_map, List.map_cons, List.map_map, List.sum_cons]
    simp only [Go.Proofs.YtfcfgbejpcmmkaaDoor.Rows.uptoBulkAll]
    have e : (List.map ((fun i => g i + 1) ∘ Nat.succ) (List.range n)) = (List.range n).map fun i => g (i + 1) + 1 := rfl
    rw [e]
    omega
theorem sum_at {α : Type} {m : α → Nat} {g : Nat → Nat} : ∀ {l : List α} {k : Nat}, (∀ (i : Nat) (x : α), l[i]? = some x → m x = g (k + i)) → (l.map fun x => m x + 1).sum = ((List.range l.length).map fun i => g (k + i) + 1).sum
  | [], _, _ => rfl
  | x :: r, k, h => by
    have h0 := h 0 x rfl
    have ih := sum_at (m := m) (g := g) (l := r) (k := k + 1) fun i y hy => by have := h (i + 1) y (by simpa using hy); rw [this]; congr 1; omega
    rw [List.length_cons, List.range_succ_eq_map, List.map_cons, List.map_cons, List.sum_cons, List.sum_cons, List.map_map, ih, h0]
    congr 2
    apply List.map_congr_left
    intro i _
    show _ = g (k + (i + 1)) + 1
    congr 2
    omega
theorem choose_fun {p : Nat → Nat → Prop} (n : Nat) (h : ∀ i, i < n → ∃ v, p i v) : ∃ g : Nat → Nat, ∀ i, i < n → p i (g i) := by
  induction n with
  | zero => exact ⟨fun _ => 0, fun i hi => by omega⟩
  | succ n ih =>
    obtain ⟨g, hg⟩ := ih fun i hi => h i (by omega)
    obtain ⟨v, hv⟩ := h n (by omega)
    refine ⟨fun i => if i = n then v else g i, fun i hi => ?_⟩
    by_cases e : i = n
    · subst e; simpa using hv
    · simp only [if_neg e]; exact hg i (by omega)
theorem bulk_list {H : Type} {α : Type} {m : α → Nat} {l : List α} {ds : List (DataW H)} (hl : l.length ≤ ds.length) (h : ∀ (i : Nat) (x : α) (d : DataW H), l[i]? = some x → ds[i]? = some d → m x + 1 ≤ Go.Proofs.YtfcfgbejpcmmkaaDoor.Rows.uptoBulk d) : (l.map fun x => m x + 1).sum ≤ Go.Proofs.YtfcfgbejpcmmkaaDoor.Rows.uptoBulkAll ds := by
  obtain ⟨g, hg⟩ := choose_fun (p := fun i v => ∀ x, l[i]? = some x → m x = v) l.length fun i hi => ⟨m l[i], fun x hx => by rw [List.getElem?_eq_getElem hi] at hx; simp only [Option.some.injEq] at hx; rw [hx]⟩
  have e := sum_at (m := m) (g := g) (l := l) (k := 0) fun i x hx => by rw [Nat.zero_add]; exact hg i (List.getElem?_eq_some_iff.1 hx).1 x hx
  rw [e]
  refine Nat.le_trans (Nat.le_of_eq ?_) (bulk_le (n := l.length) (g := g) hl fun i d hi hd => ?_)
  · simp
  · rw [← hg i hi _ (List.getElem?_eq_getElem hi)]
    exact h i _ d (List.getElem?_eq_getElem hi) hd
theorem mem_weightsAll {e : TypeId} : ∀ {ds : List (DataW H)} {d : DataW H} {n : Nat}, d ∈ ds → n ∈ d.weights P e → n ∈ DataW.weightsAll P e ds
  | d0 :: r, d, n, hd, hn => by
    simp only [DataW.weightsAll, List.mem_append]
    rcases List.mem_cons.1 hd with rfl | hd
    · exact .inl hn
    · exact .inr (mem_weightsAll hd hn)

theorem Opens.map {α β : Type} {T : TypeId} {sz : Nat} {f : α → List Value} {ok : α → Prop} {m : α → Nat} {f' : β → List Value} {ok' : β → Prop} {m' : β → Nat} (h : Opens enc P W T sz f ok m) (g : α → β) (hf : ∀ x, f x = f' (g x)) (ho : ∀ x, ok x → ok' (g x)) (hm : ∀ x, m' (g x) ≤ m x) (hl : ∀ y, ok' y → (f' y).length = sz) : Opens enc P W T sz f' ok' m' :=
  ⟨h.1, hl, fun fuel cs d ht hw => by
    obtain ⟨y, rfl, hy, hb⟩ := h.2.2 fuel cs d ht hw
    exact ⟨g y, hf y, ho y hy, Nat.le_trans (Nat.add_le_add_right (hm y) 1) hb⟩⟩

theorem opens_int {T : TypeId} {k : IntKind} (hu : P.underlying T = some (.int k)) (hc : P.cellsOf T = 1) : Opens enc P W T 1 (fun n : Int => [.int k n]) (fun n => (Lit.int k n).wf = true) (fun _ => 0) :=
  ⟨hc, fun _ _ => rfl, fun _ _ _ ht _ => by
    obtain ⟨n, rfl, rfl, hw⟩ := DataW.trod_int hu ht
    exact ⟨n, rfl, hw, by simp [Go.Proofs.YtfcfgbejpcmmkaaDoor.Rows.uptoBulk]⟩⟩
theorem opens_i64 {T : TypeId} (hu : P.underlying T = some (.int .i64)) (hc : P.cellsOf T = 1) : Opens enc P W T 1 (fun n : Int => [.int .i64 n]) (fun n => -9223372036854775808 ≤ n ∧ n ≤ 9223372036854775807) (fun _ => 0) :=
  (opens_int hu hc).map id (fun _ => rfl) (fun _ h => lift_i64 h) (fun _ => Nat.le_refl _) (fun _ _ => rfl)
theorem opens_u8 {T : TypeId} (hu : P.underlying T = some (.int .u8)) (hc : P.cellsOf T = 1) : Opens enc P W T 1 (fun n : UInt8 => [bv n]) (fun _ => True) (fun _ => 0) :=
  ⟨hc, fun _ _ => rfl, fun _ _ _ ht _ => by
    obtain ⟨n, rfl, rfl, hw⟩ := DataW.trod_int hu ht
    obtain ⟨x, rfl⟩ := lift_u8 hw
    exact ⟨x, rfl, trivial, by simp [Go.Proofs.YtfcfgbejpcmmkaaDoor.Rows.uptoBulk]⟩⟩
theorem opens_u16 {T : TypeId} (hu : P.underlying T = some (.int .u16)) (hc : P.cellsOf T = 1) : Opens enc P W T 1 (fun n : UInt16 => [uv16 n]) (fun _ => True) (fun _ => 0) :=
  ⟨hc, fun _ _ => rfl, fun _ _ _ ht _ => by
    obtain ⟨n, rfl, rfl, hw⟩ := DataW.trod_int hu ht
    obtain ⟨x, rfl⟩ := lift_u16 hw
    exact ⟨x, rfl, trivial, by simp [Go.Proofs.YtfcfgbejpcmmkaaDoor.Rows.uptoBulk]⟩⟩
theorem opens_u32 {T : TypeId} (hu : P.underlying T = some (.int .u32)) (hc : P.cellsOf T = 1) : Opens enc P W T 1 (fun n : UInt32 => [uv32 n]) (fun _ => True) (fun _ => 0) :=
  ⟨hc, fun _ _ => rfl, fun _ _ _ ht _ => by
    obtain ⟨n, rfl, rfl, hw⟩ := DataW.trod_int hu ht
    obtain ⟨x, rfl⟩ := lift_u32 hw
    exact ⟨x, rfl, trivial, by simp [Go.Proofs.YtfcfgbejpcmmkaaDoor.Rows.uptoBulk]⟩⟩
theorem opens_u64 {T : TypeId} (hu : P.underlying T = some (.int .u64)) (hc : P.cellsOf T = 1) : Opens enc P W T 1 (fun n : UInt64 => [uv64 n]) (fun _ => True) (fun _ => 0) :=
  ⟨hc, fun _ _ => rfl, fun _ _ _ ht _ => by
    obtain ⟨n, rfl, rfl, hw⟩ := DataW.trod_int hu ht
    obtain ⟨x, rfl⟩ := lift_u64 hw
    exact ⟨x, rfl, trivial, by simp [Go.Proofs.YtfcfgbejpcmmkaaDoor.Rows.uptoBulk]⟩⟩
theorem opens_bool {T : TypeId} (hu : P.underlying T = some .bool) (hc : P.cellsOf T = 1) : Opens enc P W T 1 (fun b : Bool => [.bool b]) (fun _ => True) (fun _ => 0) :=
  ⟨hc, fun _ _ => rfl, fun _ _ _ ht _ => by
    obtain ⟨b, rfl, rfl⟩ := DataW.trod_bool hu ht
    exact ⟨b, rfl, trivial, by simp [Go.Proofs.YtfcfgbejpcmmkaaDoor.Rows.uptoBulk]⟩⟩
theorem opens_string {T : TypeId} (hu : P.underlying T = some .string) (hc : P.cellsOf T = 1) : Opens enc P W T 1 (fun l : List UInt8 => [.string (bstr l)]) (fun l => l.length ≤ 140737488351232) (fun l => l.length) :=
  ⟨hc, fun _ _ => rfl, fun _ _ _ ht hw => by
    obtain ⟨s, rfl, rfl, _⟩ := DataW.trod_string hu ht
    have := hw s.data.toList.length (by simp [DataW.weights])
    refine ⟨s.data.toList, ?_, this, by simp [Go.Proofs.YtfcfgbejpcmmkaaDoor.Rows.uptoBulk]⟩
    cases s
    rfl⟩

theorem opensF_nil {off : Nat} : OpensF enc P W [] off 0 (fun _ : Unit => []) (fun _ => True) (fun _ => 0) :=
  ⟨fun _ _ => rfl, fun _ cs _ _ hl _ _ => ⟨(), List.drop_eq_nil_of_le (by omega), trivial, Nat.zero_le _⟩⟩

theorem opensF_cons {α β : Type} {g : Field} {fs : List Field} {off sz sz' : Nat} {f : α → List Value} {ok : α → Prop} {m : α → Nat} {f' : β → List Value} {ok' : β → Prop} {m' : β → Nat} (h : Opens enc P W g.type sz f ok m) (ho : g.offset = off) (h' : OpensF enc P W fs (off + sz) sz' f' ok' m') :
    OpensF enc P W (g :: fs) off (sz + sz') (fun p : α × β => f p.1 ++ f' p.2) (fun p => ok p.1 ∧ ok' p.2) (fun p => m p.1 + m' p.2) := by
  refine ⟨fun x hx => by rw [List.length_append, h.2.1 _ hx.1, h'.1 _ hx.2], fun fuel cs xs hxl hl ht hw => ?_⟩
  cases xs with
  | nil => simp at hxl
  | cons x xs =>
    have h0 := ht 0 g rfl
    rw [List.getElem?_cons_zero, ho, h.1] at h0
    simp only [List.map_cons, DataW.weightsEach, List.mem_append] at hw
    obtain ⟨y, hy, oy, by_⟩ := h.2.2 fuel _ x h0 fun n hn => hw n (.inl hn)
    obtain ⟨z, hz, oz, bz⟩ := h'.2 fuel cs xs (by simpa using hxl) (by omega) (fun i g' hg => by
      have := ht (i + 1) g' (by simpa using hg)
      rwa [List.getElem?_cons_succ] at this) fun n hn => hw n (.inr hn)
    refine ⟨(y, z), ?_, ⟨oy, oz⟩, ?_⟩
    · show _ = f y ++ f' z
      rw [← hy, ← hz, ← List.drop_drop, List.take_append_drop]
    · simp only [List.map_cons, Go.Proofs.YtfcfgbejpcmmkaaDoor.Rows.uptoBulkAll]
      omega

theorem opens_struct {α : Type} {T : TypeId} {fs : Array Field} {sz : Nat} {f : α → List Value} {ok : α → Prop} {m : α → Nat} (hu : P.underlying T = some (.struct fs)) (hc : P.cellsOf T = sz) (h : OpensF enc P W fs.toList 0 sz f ok m) : Opens enc P W T sz f ok m := by
  refine ⟨hc, h.1, fun fuel cs d ht hw => ?_⟩
  obtain ⟨xs, n, _, rfl, hl, hxl, hx⟩ := DataW.trod_struct hu ht
  obtain ⟨y, hy, oy, b⟩ := h.2 n cs xs (by rw [hxl, Array.length_toList]) (by rw [hl, hc, Nat.zero_add]) (fun i g hg => hx i g (by simpa using hg)) (fun n hn => hw n (by simp only [DataW.weights, hu]; exact hn))
  exact ⟨y, by simpa using hy, oy, by simp only [Go.Proofs.YtfcfgbejpcmmkaaDoor.Rows.uptoBulk]; omega⟩

theorem choose_list {α : Type} {p : Nat → α → Prop} : ∀ n, (∀ i, i < n → ∃ x, p i x) → ∃ l : List α, l.length = n ∧ ∀ i x, l[i]? = some x → p i x
  | 0, _ => ⟨[], rfl, fun i x h => by simp at h⟩
  | n + 1, h => by
    obtain ⟨l, hl, hp⟩ := choose_list n fun i hi => h i (by omega)
    obtain ⟨x, hx⟩ := h n (by omega)
    refine ⟨l ++ [x], by simp [hl], fun i y hy => ?_⟩
    by_cases hi : i < l.length
    · rw [List.getElem?_append_left hi] at hy
      exact hp i y hy
    · rw [List.getElem?_append_right (by omega)] at hy
      have h0 : i - l.length = 0 := by have := (List.getElem?_eq_some_iff.1 hy).1; simp at this; omega
      rw [h0] at hy
      simp only [List.getElem?_cons_zero, Option.some.injEq] at hy
      subst hy
      have : i = n := by omega
      subst this
      exact hx

theorem opens_array {α : Type} {T e : TypeId} {n sz : Nat} {f : α → List Value} {ok : α → Prop} {m : α → Nat} (hu : P.underlying T = some (.array n e)) (hc : P.cellsOf T = n * sz) (h : Opens enc P W e sz f ok m) :
    Opens enc P W T (n * sz) (fun l : List α => l.flatMap f) (fun l => l.length = n ∧ ∀ x ∈ l, ok x) (fun l => (l.map fun x => m x + 1).sum) := by
  refine ⟨hc, fun l hl => by rw [flat_len fun x hx => h.2.1 x (hl.2 x hx), hl.1], fun fuel cs d ht hw => ?_⟩
  obtain ⟨xs, fm, _, rfl, hl, hxl, hx⟩ := DataW.trod_array hu ht
  obtain ⟨l, hll, hlp⟩ := choose_list (p := fun i y => (cs.drop (i * sz)).take sz = f y ∧ ok y ∧ ∀ d, xs[i]? = some d → m y + 1 ≤ Go.Proofs.YtfcfgbejpcmmkaaDoor.Rows.uptoBulk d.1) n fun i hi => by
    have h1 := hx i hi
    rw [h.1] at h1
    have h2 : i < xs.length := by omega
    rw [List.getElem?_eq_getElem h2] at h1
    obtain ⟨y, hy, oy, b⟩ := h.2.2 fm _ _ h1 fun k hk => hw k (by
      simp only [DataW.weights, hu]
      exact mem_weightsAll (List.mem_map.2 ⟨_, List.getElem_mem h2, rfl⟩) hk)
    exact ⟨y, hy, oy, fun d hd => by rw [List.getElem?_eq_getElem h2] at hd; simp only [Option.some.injEq] at hd; rw [← hd]; exact b⟩
  have hmem : ∀ x ∈ l, ok x := fun x hx => by
    obtain ⟨i, hi, rfl⟩ := List.mem_iff_getElem.1 hx
    exact (hlp i _ (List.getElem?_eq_getElem hi)).2.1
  refine ⟨l, ?_, ⟨hll, hmem⟩, ?_⟩
  rotate_left
  · simp only [Go.Proofs.YtfcfgbejpcmmkaaDoor.Rows.uptoBulk]
    refine Nat.add_le_add_right (bulk_list (by simp; omega) fun i x d hx hd => ?_) 1
    simp only [List.getElem?_map, Option.map_eq_some_iff] at hd
    obtain ⟨q, hq, rfl⟩ := hd
    exact (hlp i x hx).2.2 q hq
  apply List.ext_getElem?
  intro j
  have hfl := flat_len (l := l) (fun x hx => h.2.1 x (hmem x hx))
  by_cases hj : j < n * sz
  · have hpos : 0 < sz := by rcases Nat.eq_zero_or_pos sz with h0 | h0; · subst h0; simp at hj
                             · exact h0
    have hq : j / sz < n := Nat.div_lt_of_lt_mul (by rw [Nat.mul_comm]; exact hj)
    have hm := Nat.mod_lt j hpos
    have e := Nat.div_add_mod j sz
    have hi : j / sz < l.length := by omega
    have h1 := flat_get (f := f) (sz := sz) (j := j % sz) (fun x hx => h.2.1 x (hmem x hx)) (List.getElem?_eq_getElem hi) hm
    have h2 := hlp (j / sz) _ (List.getElem?_eq_getElem hi)
    rw [Nat.mul_comm, e] at h1
    rw [h1, ← h2.1, List.getElem?_take, if_pos hm, List.getElem?_drop, Nat.mul_comm, e]
  · rw [List.getElem?_eq_none (by rw [hl, hc]; omega), List.getElem?_eq_none (by rw [hfl, hll]; omega)]

theorem opens_slice {α : Type} {T e : TypeId} {sz by_ : Nat} {f : α → List Value} {ok : α → Prop} {mm : α → Nat} (hu : P.underlying T = some (.slice e)) (hT : P.cellsOf T = 1) (hby : P.bytesOf e = by_) (h : Opens enc P W e sz f ok mm) :
    Opens enc P W T 1 (fun s : Sl α => s.f) (fun s => InS f by_ ok W [] s.a s.c s.l) (fun s => (s.l.map fun x => mm x + 1).sum) := by
  refine ⟨hT, fun _ _ => rfl, fun fuel cs d ht hw => ?_⟩
  rcases Deep.open_slice hu ht with ⟨rfl, rfl⟩ | ⟨a, len, cap, m, n, D, Pl, rfl, _, hl, hm, hmm, rfl, hx⟩
  · exact ⟨⟨none, 0, []⟩, rfl, ⟨ro_nil rfl, fun _ => rfl, Nat.le_refl _, by simp, fun _ h => by cases h⟩, by simp [Go.Proofs.YtfcfgbejpcmmkaaDoor.Rows.uptoBulk]⟩
  · simp only [if_true] at hmm
    obtain rfl := hmm.symm
    simp only [DataW.weights, hu, List.mem_cons, List.mem_append, List.length_map, List.length_range] at hw
    have hs := hw _ (.inl rfl)
    rw [hby] at hs
    have e1 : reachBytes = 140737488351232 := rfl
    rw [e1] at hs
    obtain ⟨l, hll, hlp⟩ := choose_list (p := fun i y => W.cells? 0 (a.add (i * sz)) sz = some (f y) ∧ ok y ∧ mm y + 1 ≤ Go.Proofs.YtfcfgbejpcmmkaaDoor.Rows.uptoBulk (D i)) len fun i hi => by
      obtain ⟨cs', h1, h2⟩ := hx i (by omega)
      rw [h.1] at h1
      obtain ⟨y, rfl, oy, b⟩ := h.2.2 n cs' _ h2 fun k hk => hw k (.inr (.inl (mem_weightsAll (List.mem_map.2 ⟨i, by simpa using hi, rfl⟩) hk)))
      exact ⟨y, h1, oy, b⟩
    have hmem : ∀ x ∈ l, ok x := fun x hx => by
      obtain ⟨i, hi, rfl⟩ := List.mem_iff_getElem.1 hx
      exact (hlp i _ (List.getElem?_eq_getElem hi)).2.1
    refine ⟨⟨some a, cap, l⟩, by simp [Sl.f, hll], ⟨ro_nil ?_, fun h => (by cases h), by show l.length ≤ cap; omega, ?_, hmem⟩, ?_⟩
    rotate_left 2
    · simp only [Go.Proofs.YtfcfgbejpcmmkaaDoor.Rows.uptoBulk]
      have := bulk_list (m := mm) (l := l) (ds := (List.range len).map D) (by simp; omega) fun i x d hx hd => by
        have hi : i < len := by have := (List.getElem?_eq_some_iff.1 hx).1; omega
        simp only [List.getElem?_map, List.getElem?_range hi, Option.map_some, Option.some.injEq] at hd
        rw [← hd]
        exact (hlp i x hx).2.2
      show (l.map fun x => mm x + 1).sum + 1 ≤ _
      omega
    · intro j u hj
      obtain ⟨i, k, x, rfl, hk, hi, hu'⟩ := flat_get_inv (fun x hx => h.2.1 x (hmem x hx)) hj
      have h1 := (World.cells?_some (hlp i x hi).1).2.2 k hk
      rw [hu'] at h1
      rw [← h1, Deep.add_add]
    · show l.length * by_ ≤ _
      have h1 : l.length * by_ ≤ (len + (cap - len)) * by_ := Nat.mul_le_mul_right _ (by omega)
      exact Nat.le_trans h1 hs

theorem flatMap_bys (l : List UInt8) : l.flatMap (fun b => [bv b]) = bys l := by simp [bys, List.flatMap_def]; induction l <;> simp_all <;> omega
theorem sum_ones {α : Type} (l : List α) : (l.map fun _ => 0 + 1).sum = l.length := by induction l <;> simp_all <;> omega
theorem opens_bys {T e : TypeId} (hu : P.underlying T = some (.slice e)) (hT : P.cellsOf T = 1) (he : P.underlying e = some (.int .u8)) (hc : P.cellsOf e = 1) (hby : P.bytesOf e = 1) :
    Opens enc P W T 1 (fun s : Sl UInt8 => s.f) (fun s => InB W [] s.a s.c s.l) (fun s => s.l.length) :=
  (opens_slice hu hT hby (opens_u8 he hc)).map id (fun _ => rfl) (fun s h => ⟨by have := h.ro; rwa [flatMap_bys] at this, h.nz, h.cap, by have := h.small; rw [Nat.mul_one] at this; exact Nat.le_trans this (by decide)⟩) (fun s => Nat.le_of_eq (sum_ones s.l).symm) (fun _ _ => rfl)
/-- .. with the room that is left told -/
theorem opens_bysB {T e : TypeId} (hu : P.underlying T = some (.slice e)) (hT : P.cellsOf T = 1) (he : P.underlying e = some (.int .u8)) (hc : P.cellsOf e = 1) (hby : P.bytesOf e = 1) :
    Opens enc P W T 1 (fun s : Sl UInt8 => s.f) (fun s => InB W [] s.a s.c s.l ∧ s.l.length ≤ 140737488351232) (fun s => s.l.length) :=
  (opens_slice hu hT hby (opens_u8 he hc)).map id (fun _ => rfl) (fun s h => ⟨⟨by have := h.ro; rwa [flatMap_bys] at this, h.nz, h.cap, by have := h.small; rw [Nat.mul_one] at this; exact Nat.le_trans this (by decide)⟩, by have := h.small; rw [Nat.mul_one] at this; exact Nat.le_trans this (by decide)⟩) (fun s => Nat.le_of_eq (sum_ones s.l).symm) (fun _ _ => rfl)
theorem opens_byarr {T e : TypeId} {n : Nat} (hu : P.underlying T = some (.array n e)) (hT : P.cellsOf T = n) (he : P.underlying e = some (.int .u8)) (hc : P.cellsOf e = 1) :
    Opens enc P W T n (fun l : List UInt8 => bys l) (fun l => l.length = n) (fun _ => 0) := by
  have h := opens_array (enc := enc) (P := P) (W := W) (n := n) (sz := 1) hu (by rw [Nat.mul_one]; exact hT) (opens_u8 he hc)
  rw [Nat.mul_one] at h
  exact h.map id (fun l => flatMap_bys l) (fun l hl => hl.1) (fun _ => Nat.zero_le _) (fun l hl => by rw [bys_length]; exact hl)

/-- a parameter that is one cell -/
theorem open_one {α : Type} {T : TypeId} {f : α → List Value} {ok : α → Prop} {m : α → Nat} (h : Opens enc P W T 1 f ok m) {v : Value} {d : DataW H} {ps : List MemPlace} (hd : DataW.Trod enc P W 0 (fun _ => true) true T v d ps) (hv : v.cells = #[v])
    (hw : ∀ n ∈ d.weights P T, n ≤ reachBytes) : ∃ y : α, [v] = f y ∧ ok y ∧ m y + 1 ≤ Go.Proofs.YtfcfgbejpcmmkaaDoor.Rows.uptoBulk d := by
  obtain ⟨fuel, hf⟩ := hd
  have := h.2.2 fuel _ _ hf hw
  rwa [hv] at this
theorem open_many {α : Type} {T : TypeId} {sz : Nat} {f : α → List Value} {ok : α → Prop} {m : α → Nat} (h : Opens enc P W T sz f ok m) {v : Value} {d : DataW H} {ps : List MemPlace} (hd : DataW.Trod enc P W 0 (fun _ => true) true T v d ps) (hv : ∃ cs, v = .agg cs)
    (hw : ∀ n ∈ d.weights P T, n ≤ reachBytes) : ∃ y : α, v = .agg (f y).toArray ∧ ok y ∧ m y + 1 ≤ Go.Proofs.YtfcfgbejpcmmkaaDoor.Rows.uptoBulk d := by
  obtain ⟨cs, rfl⟩ := hv
  obtain ⟨fuel, hf⟩ := hd
  obtain ⟨y, hy, oy, b⟩ := h.2.2 fuel _ _ hf hw
  refine ⟨y, ?_, oy, b⟩
  have : cs.toList = f y := hy
  rw [← this]
theorem one_int {r : Reach} {b0 : Nat} {T : TypeId} {v : Value} {k : IntKind} (hu : P.underlying T = some (.int k)) (h : Value.okWide P W r b0 T v) : v.cells = #[v] := by obtain ⟨_, rfl⟩ := okWide_int hu h; rfl
theorem one_bool {r : Reach} {b0 : Nat} {T : TypeId} {v : Value} (hu : P.underlying T = some .bool) (h : Value.okWide P W r b0 T v) : v.cells = #[v] := by obtain ⟨_, rfl⟩ := okWide_bool hu h; rfl
theorem one_string {r : Reach} {b0 : Nat} {T : TypeId} {v : Value} (hu : P.underlying T = some .string) (h : Value.okWide P W r b0 T v) : v.cells = #[v] := by obtain ⟨_, rfl⟩ := okWide_string hu h; rfl
theorem one_slice {r : Reach} {b0 : Nat} {T e : TypeId} {v : Value} (hu : P.underlying T = some (.slice e)) (h : Value.okWide P W r b0 T v) : v.cells = #[v] := by obtain ⟨_, _, _, rfl⟩ := okWide_slice hu h; rfl
theorem bulk_at {ds : List (DataW H)} (h : Go.Proofs.YtfcfgbejpcmmkaaDoor.Rows.uptoSmall H ds = true) : Go.Proofs.YtfcfgbejpcmmkaaDoor.Rows.uptoBulkAll ds ≤ 1048576 := of_decide_eq_true h
theorem sized_each {ts : List TypeId} {ds : List (DataW H)} (h : (DataW.weightsEach P ts ds).all (· ≤ reachBytes) = true) {j : Nat} {t : TypeId} {d : DataW H} (ht : ts[j]? = some t) (hd : ds[j]? = some d) : ∀ n ∈ d.weights P t, n ≤ reachBytes := fun n hn => by
  have := List.all_eq_true.1 h _ (DataW.weights_mem_each ht hd n hn)
  simpa using this
theorem okWide_agg {r : Reach} {b0 : Nat} {T : TypeId} {v : Value} (hu : (∃ fs, P.underlying T = some (.struct fs)) ∨ ∃ n e, P.underlying T = some (.array n e)) (h : Value.okWide P W r b0 T v) : ∃ cs, v = .agg cs := by
  rcases hu with ⟨fs, hu⟩ | ⟨n, e, hu⟩ <;> simp only [Value.okWide, hu] at h <;> obtain ⟨cs, h1, _⟩ := h <;> exact ⟨cs, h1⟩
end
end Go.Dbr
