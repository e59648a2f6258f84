/- Operations on owned memory, one lemma for each kind: over any program. -/
import Derived.Test.YtfcfgbejpcmmkaaDoorHeap
namespace Go.Dbr
open Go Go.RowKit

/-! ## a loop, its measure carried along -/
theorem loop_m {P : Program} {Q : Exit → Act → World → Prop} {a : Act} {w : World} {c : Code} (I : Nat → Act → World → Prop) (h0 : ∃ m, I m a w)
    (round : ∀ m a w, I m a w → c.wp P (Exit.then (fun a' w' => ∃ m', I m' a' w' ∧ m' < m) Q) a w) : (Code.loop c).wp P Q a w := by
  intro b k cs
  have key : ∀ m a w, I m a w → ∃ e a' w', Q e a' w' ∧ Arrives P (lone (b.at a (.code c :: .inLoop c :: k)) cs w) b k cs e a' w' := by
    intro m
    induction m using Nat.strongRecOn with
    | _ m ih =>
      intro a w hI
      obtain ⟨e, a₁, w₁, hq, harr⟩ := round m a w hI b (.inLoop c :: k) cs
      cases e with
      | normal =>
        obtain ⟨m', hI₁, hlt⟩ := hq
        obtain ⟨e₂, a₂, w₂, hq₂, harr₂⟩ := ih m' hlt a₁ w₁ hI₁
        exact ⟨e₂, a₂, w₂, hq₂, .of_steps (Steps.trans harr (.one step_inLoop)) harr₂⟩
      | exit id => exact ⟨_, a₁, w₁, hq, .pass (x := .inLoop c) rfl (fun _ _ => .inl (by simp)) harr⟩
      | goto l => exact ⟨_, a₁, w₁, hq, .pass (x := .inLoop c) rfl (fun _ _ => .inl (by simp)) harr⟩
      | ret => exact ⟨_, a₁, w₁, hq, .pass (x := .inLoop c) rfl (fun _ _ => .inl (by simp)) harr⟩
      | panic ch => exact ⟨_, a₁, w₁, hq, .pass (x := .inLoop c) rfl (fun _ _ => .inl (by simp)) harr⟩
      | outgrown => exact ⟨_, a₁, w₁, hq, .pass (x := .inLoop c) rfl (fun _ _ => .inl (by simp)) harr⟩
  obtain ⟨m, hm⟩ := h0
  obtain ⟨e, a', w', hq, harr⟩ := key m a w hm
  exact ⟨e, a', w', hq, .of_steps (.one step_loop) harr⟩

def InLoop (P : Program) (c : Code) (Q : Exit → Act → World → Prop) (a : Act) (w : World) : Prop :=
  ∀ b k cs, ∃ e a' w', Q e a' w' ∧ Arrives P (lone (b.at a (.code c :: .inLoop c :: k)) cs w) b k cs e a' w'
theorem loop_enter {P : Program} {Q : Exit → Act → World → Prop} {a : Act} {w : World} {c : Code} (h : InLoop P c Q a w) : (Code.loop c).wp P Q a w := by
  intro b k cs
  obtain ⟨e, a', w', hq, harr⟩ := h b k cs
  exact ⟨e, a', w', hq, .of_steps (.one step_loop) harr⟩
theorem loop_once {P : Program} {Q : Exit → Act → World → Prop} {a : Act} {w : World} {c : Code} (h : c.wp P (Exit.then (fun a' w' => InLoop P c Q a' w') Q) a w) : InLoop P c Q a w := by
  intro b k cs
  obtain ⟨e, a₁, w₁, hq, harr⟩ := h b (.inLoop c :: k) cs
  cases e with
  | normal =>
    obtain ⟨e₂, a₂, w₂, hq₂, harr₂⟩ := hq b k cs
    exact ⟨e₂, a₂, w₂, hq₂, .of_steps (Steps.trans harr (.one step_inLoop)) harr₂⟩
  | exit id => exact ⟨_, a₁, w₁, hq, .pass (x := .inLoop c) rfl (fun _ _ => .inl (by simp)) harr⟩
  | goto l => exact ⟨_, a₁, w₁, hq, .pass (x := .inLoop c) rfl (fun _ _ => .inl (by simp)) harr⟩
  | ret => exact ⟨_, a₁, w₁, hq, .pass (x := .inLoop c) rfl (fun _ _ => .inl (by simp)) harr⟩
  | panic ch => exact ⟨_, a₁, w₁, hq, .pass (x := .inLoop c) rfl (fun _ _ => .inl (by simp)) harr⟩
  | outgrown => exact ⟨_, a₁, w₁, hq, .pass (x := .inLoop c) rfl (fun _ _ => .inl (by simp)) harr⟩

section
variable {P : Program} {ops : Array Oper} {Q : Exit → Act → World → Prop} {n i : Nat} {l : List (Nat × Value)} {a : Act} {w w0 : World} {d : Option Tmp} {s : Sem Next} {L L0 : List Ent} {K : Act → World → Prop}

theorem from_op (hi : Nat.blt i ops.size = true) (h : wpOp P ops Q i (From P ops Q (i + 1)) a w) : From P ops Q i a w := by
  have h1 : Nat.ble (i + 1) ops.size = true := hi
  exact from_cons (Nat.le_of_ble_eq_true h1) h

theorem any_at {m : Nat} {listed listed' : Array Bool} (i : Nat) (hr : Region.ready .any ops listed = [i]) (hl : listed.setIfInBounds i true = listed')
    (h : wpOp P ops Q i (wpAny P .any ops Q m listed') a w) : wpAny P .any ops Q (m + 1) listed a w :=
  any_of [i] hr rfl fun j hj => by
    have : j = i := by simpa using hj
    subst this
    subst hl
    exact h

theorem any_two {m : Nat} {listed : Array Bool} (i j : Nat) (hr : Region.ready .any ops listed = [i, j])
    (hi : ∀ listed', listed.setIfInBounds i true = listed' → wpOp P ops Q i (wpAny P .any ops Q m listed') a w)
    (hj : ∀ listed', listed.setIfInBounds j true = listed' → wpOp P ops Q j (wpAny P .any ops Q m listed') a w) : wpAny P .any ops Q (m + 1) listed a w :=
  any_of [i, j] hr rfl fun k hk => by
    rcases List.mem_cons.1 hk with rfl | hk
    · exact hi _ rfl
    · have : k = j := by simpa using hk
      subst this
      exact hj _ rfl

def AllWays (f : Nat → Prop) : List Nat → Prop
  | [] => True
  | i :: r => f i ∧ AllWays f r
theorem AllWays.mem {f : Nat → Prop} : ∀ {l : List Nat}, AllWays f l → ∀ i ∈ l, f i
  | i :: r, h, j, hj => by
    rcases List.mem_cons.1 hj with rfl | hj
    · exact h.1
    · exact AllWays.mem h.2 j hj
theorem any_ways {m : Nat} {listed : Array Bool} (is : List Nat) (hr : Region.ready .any ops listed = is) (hn : is.isEmpty = false)
    (h : AllWays (fun i => ∀ listed', listed.setIfInBounds i true = listed' → wpOp P ops Q i (wpAny P .any ops Q m listed') a w) is) : wpAny P .any ops Q (m + 1) listed a w :=
  any_of is hr hn fun i hi => AllWays.mem h i hi _ rfl

/-- the orders of a drawn region by what has run: each set once -/
theorem any_name {m : Nat} {listed : Array Bool} (h : ∀ G : Nat → Array Bool → Act → World → Prop, G = wpAny P .any ops Q → G m listed a w) : wpAny P .any ops Q m listed a w := h _ rfl
theorem any_from {G : Nat → Array Bool → Act → World → Prop} (hG : G = wpAny P .any ops Q) {m : Nat} {listed : Array Bool} (h : wpAny P .any ops Q m listed a w) : G m listed a w := hG ▸ h
theorem any_to {G : Nat → Array Bool → Act → World → Prop} (hG : G = wpAny P .any ops Q) {m : Nat} {listed listed' : Array Bool} (hl : listed = listed') (h : G m listed' a w) : wpAny P .any ops Q m listed a w := by subst hG hl; exact h

/-- what an operation's run is, the program's tables looked up -/
def opRuns (P : Program) (ops : Array Oper) (n i : Nat) (l : List (Nat × Value)) : Option (Option Tmp × (World → Result Next)) :=
  match opAt ops n i l with
  | some (.run d s) => some (d, fun w => s.run P w)
  | _ => none

theorem opRuns_spec {r : World → Result Next} (h : opRuns P ops n i l = some (d, r)) : ∃ s, opAt ops n i l = some (.run d s) ∧ ∀ w, s.run P w = r w := by
  unfold opRuns at h
  split at h
  · rename_i d' s' hs
    simp only [Option.some.injEq, Prod.mk.injEq] at h
    obtain ⟨rfl, rfl⟩ := h
    exact ⟨s', hs, fun _ => rfl⟩
  · cases h

theorem any_pureR {F : Act → World → Prop} {m : Nat} {listed listed' : Array Bool} (E : Env a n l) {v : Value} (i : Nat)
    (hr : opRuns P ops n i l = some (d, fun w => .ok (.value v) w))
    (hc : (Region.noSelect ops && Region.free .any ops listed i && (Region.ready .any ops listed).contains i) = true) (hl : listed.setIfInBounds i true = listed')
    (next : ∀ a', Env a' n (putl d v l) → wpAny P .any ops (fun e a w => e = .normal ∧ F a w) m listed' a' w) :
    wpAny P .any ops (fun e a w => e = .normal ∧ F a w) (m + 1) listed a w := by
  obtain ⟨s, hs, h⟩ := opRuns_spec hr
  exact any_pure E i hs (funext h) hc hl next

/-- a call of a function of the program -/
theorem op_call (E : Env a n l) {f : FuncId} {args : Array Value} (h : opRuns P ops n i l = some (d, fun w => .ok (.enter f args) w))
    (hc : Calls P f args w fun e w'' => ∃ v, e = .returned v ∧ ∀ a', Env a' n (putl d v l) → K a' w'') : wpOp P ops Q i K a w := by
  obtain ⟨s, hs, hr⟩ := opRuns_spec h
  exact any_call E hs (hr w) hc

/-- an operation that leaves memory alone -/
theorem op_val (E : Env a n l) {x : Sem Value} (h : opAt ops n i l = some (.run d (nv x))) {v : Value} (hr : x.run P w = .ok v w)
    (next : ∀ a', Env a' n (putl d v l) → K a' w) : wpOp P ops Q i K a w := any_run E h (run_nv hr) next

theorem op_load (E : Env a n l) {t : TypeId} {ad : Addr} (h : opAt ops n i l = some (.run d (nv (Instr.loadAt t (.pointer (some ad)))))) {v : Value} (hc : w.cell? ad = some v)
    (ht : (fun w => (isAgg t).run P w) = fun w => .ok false w) (next : ∀ a', Env a' n (putl d v l) → K a' w) : wpOp P ops Q i K a w :=
  op_val E h (run_load1 ht hc) next

theorem op_loadbox (E : Env a n l) {t : TypeId} {b off k : Nat} {cs : List Value} {T : TypeId} {v : Value} (h : opAt ops n i l = some (.run d (nv (Instr.loadAt t (.pointer (some ⟨b, off, none⟩))))))
    (H : Ev w0 L0 w L) (hk : L[k]? = some (.box b cs T)) (hv : cs[off]? = some v)
    (ht : (fun w => (isAgg t).run P w) = fun w => .ok false w) (next : ∀ a', Env a' n (putl d v l) → K a' w) : wpOp P ops Q i K a w :=
  op_load E h (H.heap.cell hk hv) ht next

theorem op_storebox (E : Env a n l) {t : TypeId} {b off k : Nat} {cs : List Value} {T : TypeId} {v old : Value} (h : opAt ops n i l = some (.run d (nu (Instr.storeAt t (.pointer (some ⟨b, off, none⟩)) v))))
    (H : Ev w0 L0 w L) (hk : L[k]? = some (.box b cs T)) (ho : cs[off]? = some old) (hs : (fun w => (sizeOf t).run P w) = fun w => .ok 1 w) (hv : v.oneCell' = true) {L' : List Ent} (hL : L.set k (.box b (cs.set off v) T) = L')
    (next : ∀ a' w', Env a' n (putl d undef l) → Ev w0 L0 w' L' → K a' w') : wpOp P ops Q i K a w := by
  subst hL
  exact any_unit E h (run_nu (run_store1 hs H.heap hk ho hv)) fun a' E' => next a' _ E' (H.trans (H.heap.setBox v hk))

/-- a new variable, a new struct -/
theorem op_newbox (E : Env a n l) {T : TypeId} {v : Value} (h : opAt ops n i l = some (.run d (nv (Instr.box T v)))) {cs : List Value} (hc : v.cells.toList = cs) (H : Ev w0 L0 w L)
    (next : ∀ a' w' b, Env a' n (putl d (.pointer (some ⟨b, 0, none⟩)) l) → Ev w0 L0 w' (L ++ [.box b cs T]) → K a' w') : wpOp P ops Q i K a w := by
  subst hc
  refine any_run E h (run_nv (w' := w.alloc (.cells v.cells T)) (v := .pointer (some ⟨w.heap.size, 0, none⟩)) (by simp [Instr.box, newVar, newRow])) fun a' E' => next a' _ _ E' (H.trans ?_)
  have := H.heap.newBox (T := T) v.cells.toList
  rwa [Array.toArray_toList] at this

/-- a variable whose address is taken -/
theorem op_alloc (E : Env a n l) {T : TypeId} {x : Value} (h : opAt ops n i l = some (.run d (nv (Instr.alloc T true x)))) {z : Value} {cs : List Value} (hz : (fun w => (zeroValue T).run P w) = fun w => .ok z w) (hc : z.cells.toList = cs) (H : Ev w0 L0 w L)
    (next : ∀ a' w' b, Env a' n (putl d (.pointer (some ⟨b, 0, none⟩)) l) → Ev w0 L0 w' (L ++ [.box b cs T]) → K a' w') : wpOp P ops Q i K a w := by
  subst hc
  have hz' : (zeroValue T).run P w = .ok z w := congrFun hz w
  refine any_run E h (run_nv (w' := w.alloc (.cells z.cells T)) (v := .pointer (some ⟨w.heap.size, 0, none⟩)) ?_) fun a' E' => next a' _ _ E' (H.trans ?_)
  · simp [Instr.alloc, hz', newVar, newRow]
  · have := H.heap.newBox (T := T) z.cells.toList
    rwa [Array.toArray_toList] at this

/-- a slice that is written out -/
theorem op_lit (E : Env a n l) {t T : TypeId} {m : Nat} {parts : Array (Nat × Value)} (h : opAt ops n i l = some (.run d (nv (Instr.buildSlice t m parts)))) {xs : List Value} {sz : Nat}
    (hr : (fun w => (Instr.buildSlice t m parts).run P w) = fun w => .ok (.slice (some ⟨w.heap.size, 0, none⟩) m m) (w.alloc (.cells xs.toArray T))) (hl : xs.length = m * sz) (hm : m ≤ maxLen) (H : Ev w0 L0 w L)
    (next : ∀ a' w' b, Env a' n (putl d (.slice (some ⟨b, 0, none⟩) m m) l) → Ev w0 L0 w' (L ++ [.vec (some ⟨b, 0, none⟩) m sz xs T]) → K a' w') : wpOp P ops Q i K a w :=
  any_run E h (run_nv (congrFun hr w)) fun a' E' => next a' _ _ E' (H.trans (H.heap.newVec xs hl hm))

/-- nil, as a slice that is owned -/
theorem Ev.nil {sz : Nat} {T : TypeId} (H : Ev w0 L0 w L) : Ev w0 L0 w (L ++ [.vec none 0 sz [] T]) :=
  H.trans (Ev.add H.heap (Chg.refl _ _) ⟨rfl, rfl⟩ (fun b hb => by cases hb))

def appendOf (t tx ty : TypeId) (x y : Value) : Sem Next := nv (Builtin.append_ #[t, tx] ty #[x, y])

theorem op_append (E : Env a n l) {t tx ty T : TypeId} {k : Nat} {ao : Option Addr} {cap sz p m : Nat} {xs ys : List Value} {x : Value} {z : Value} {bytes : Nat}
    (h : opAt ops n i l = some (.run d (appendOf t tx ty (.slice ao p cap) x))) (H : Ev w0 L0 w L) (hk : L[k]? = some (.vec ao cap sz xs T)) (hn : xs.length = p * sz) (hs : Src P sz tx x m ys w)
    (ht : P.underlying t = some (.slice T)) (hti : (P.info? T).map (fun i => (i.zero, i.size, i.bytes)) = some (some z, sz, bytes)) (hzs : z.cells.size = sz) (hpos : 0 < sz)
    (hb : ((p + m) + (p + m) / 4 + 192) * bytes ≤ 281474976710656) (h63 : p + m ≤ maxLen)
    (next : ∀ a' w' ao' cap', Env a' n (putl d (.slice ao' (p + m) cap') l) → Ev w0 L0 w' (L.set k (.vec ao' cap' sz (xs ++ ys) T)) → (ao' = none → p + m = 0) → p + m ≤ cap' → K a' w') : wpOp P ops Q i K a w := by
  obtain ⟨ti, hi, hz, hsz, hby⟩ : ∃ ti, P.info? T = some ti ∧ ti.zero = some z ∧ ti.size = sz ∧ ti.bytes = bytes := by
    cases hi : P.info? T with
    | none => simp [hi] at hti
    | some ti => simp only [hi, Option.map_some, Option.some.injEq, Prod.mk.injEq] at hti; exact ⟨ti, rfl, hti.1, hti.2.1, hti.2.2⟩
  obtain ⟨ao', cap', w', hr, he, h1, h2⟩ := H.heap.append1 hk hn hs ht hi hz hsz hby hzs hpos h63 hb
  exact any_run E h (run_nv hr) fun a' E' => next a' w' ao' cap' E' (H.trans he) h1 h2

set_option linter.unusedSimpArgs false in
/-- x[lo:hi] of a slice, its capacity kept -/
theorem run_sliceAt {t e : TypeId} {sz : Nat} (hu : P.underlying t = some (.slice e)) (hs : (fun w => (sizeOf e).run P w) = fun w => .ok sz w) (ao : Option Addr) (len cap lo hi : Nat) (h1 : lo ≤ hi) (h2 : hi ≤ cap) (lov hiv : Option Value)
    (hlo : lov = none ∧ lo = 0 ∨ ∃ k, lov = some (.int k lo)) (hhi : hiv = none ∧ hi = len ∨ ∃ k, hiv = some (.int k hi)) :
    (Instr.sliceAt t (.slice ao len cap) lov hiv none).run P w = .ok (.slice (if cap = lo then ao else ao.map (·.add (lo * sz))) (hi - lo) (cap - lo)) w := by
  have hs' : (sizeOf e).run P w = .ok sz w := congrFun hs w
  rcases hlo with ⟨rfl, rfl⟩ | ⟨k, rfl⟩ <;> rcases hhi with ⟨rfl, rfl⟩ | ⟨k', rfl⟩ <;>
    simp [Instr.sliceAt, Instr.slice, Instr.sliceBounds, Instr.sliceBound, run_underlying hu, asIntOf, hs', h1, h2]
end

/-! ## an owned slice that is cut -/
section
variable {w w0 : World} {L L0 : List Ent}

def cutAt (ao : Option Addr) (cap lo sz : Nat) : Option Addr := if cap = lo then ao else ao.map (·.add (lo * sz))

theorem add_block (ad : Addr) (j : Nat) : (ad.add j).block = ad.block := by unfold Addr.add; split <;> rfl

theorem Ev.cut {k : Nat} {ao : Option Addr} {cap sz n : Nat} {xs : List Value} {T : TypeId} (H : Ev w0 L0 w L) (hk : L[k]? = some (.vec ao cap sz xs T)) (hn : xs.length = n * sz) (hc : n ≤ cap) (lo hi : Nat) (h1 : lo ≤ hi) (h2 : hi ≤ n) :
    Ev w0 L0 w (L.set k (.vec (cutAt ao cap lo sz) (cap - lo) sz ((xs.drop (lo * sz)).take ((hi - lo) * sz)) T)) := by
  refine H.trans (Ev.change H.heap hk (Chg.refl _ _) ?_ ?_)
  · have hh := H.heap.holds k _ hk
    have hlen : ((xs.drop (lo * sz)).take ((hi - lo) * sz)).length = (hi - lo) * sz := by
      rw [List.length_take, List.length_drop, hn, ← Nat.sub_mul]
      exact Nat.min_eq_left (Nat.mul_le_mul_right _ (by omega))
    cases ao with
    | none =>
      obtain ⟨rfl, rfl⟩ := hh
      simp only [cutAt, Option.map_none, ite_self]
      exact ⟨by omega, by simp⟩
    | some ad =>
      obtain ⟨h3, h4, h5, cur, fz, h6, hfz, h7, h8⟩ := hh
      obtain ⟨b, o, sp⟩ := ad
      simp only at h3 h6 h7 h8
      subst h3
      have hm1 : (hi - lo) * sz ≤ (cap - lo) * sz := Nat.mul_le_mul_right _ (by omega)
      have key : ∀ o' : Nat, o' = (if cap = lo then o else o + lo * sz) → (∀ j, j < ((xs.drop (lo * sz)).take ((hi - lo) * sz)).length → cur[o' + j]? = ((xs.drop (lo * sz)).take ((hi - lo) * sz))[j]?) ∧ o' + (cap - lo) * sz ≤ cur.size := by
        intro o' ho'
        refine ⟨fun j hj => ?_, ?_⟩
        · rw [hlen] at hj
          have hlt : lo ≠ cap := fun e => by subst e; have : hi = lo := by omega
                                             subst this; simp at hj
          rw [if_neg (Ne.symm hlt)] at ho'
          subst ho'
          have hle : (hi - lo) * sz + lo * sz ≤ n * sz := by rw [← Nat.add_mul]; exact Nat.mul_le_mul_right _ (by omega)
          rw [List.getElem?_take, if_pos hj, List.getElem?_drop, Nat.add_assoc]
          exact h8 (lo * sz + j) (by omega)
        · by_cases he : cap = lo
          · rw [if_pos he] at ho'
            subst ho'
            subst he
            simp only [Nat.sub_self, Nat.zero_mul]
            omega
          · rw [if_neg he] at ho'
            subst ho'
            have : lo * sz + (cap - lo) * sz = cap * sz := by rw [← Nat.add_mul]; congr 1; omega
            omega
      unfold cutAt
      by_cases he : cap = lo
      · rw [if_pos he]
        have hk' := key o (by rw [if_pos he])
        exact ⟨rfl, by omega, by rw [hlen]; exact hm1, cur, fz, h6, hfz, hk'.2, hk'.1⟩
      · rw [if_neg he]
        have hk' := key (o + lo * sz) (by rw [if_neg he])
        simp only [Option.map_some, add_off]
        exact ⟨rfl, by omega, by rw [hlen]; exact hm1, cur, fz, h6, hfz, hk'.2, hk'.1⟩
  · intro b hb
    left
    simp only [Ent.own, cutAt] at hb ⊢
    split at hb
    · exact hb
    · cases ao with
      | none => cases hb
      | some ad => simp only [Option.map_some, add_block] at hb ⊢; exact hb

theorem Reads.cut {ao : Option Addr} {cap sz n : Nat} {xs : List Value} (h : Reads w ao xs) (hn : xs.length = n * sz) (lo hi : Nat) (h1 : lo ≤ hi) (h2 : hi ≤ n) (hc : n ≤ cap) : Reads w (cutAt ao cap lo sz) ((xs.drop (lo * sz)).take ((hi - lo) * sz)) := by
  cases ao with
  | none => simp only [Reads] at h; subst h; simp [cutAt, Reads]
  | some ad =>
    unfold cutAt
    by_cases he : cap = lo
    · have : hi = lo := by omega
      subst this
      rw [if_pos he]
      simp only [Nat.sub_self, Nat.zero_mul, List.take_zero]
      intro j u hj
      simp at hj
    · rw [if_neg he]
      intro j u hj
      rw [List.getElem?_take] at hj
      split at hj
      · rw [List.getElem?_drop] at hj
        have := h (lo * sz + j) u hj
        have e : (ad.add (lo * sz)).add j = ad.add (lo * sz + j) := by
          unfold Addr.add
          by_cases h0 : lo * sz = 0 <;> by_cases hj0 : j = 0 <;> simp [h0, hj0, Nat.add_assoc]
        rw [e]; exact this
      · cases hj

theorem cutAt_none {ao : Option Addr} {cap lo sz : Nat} (h : cutAt ao cap lo sz = none) : ao = none := by
  unfold cutAt at h
  split at h
  · exact h
  · cases ao with
    | none => rfl
    | some ad => cases h
end

end Go.Dbr
