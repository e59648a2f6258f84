import Derived.Test.YtofecellbfhnjaaBk2
import Derived.Laws.StructEq
import Derived.Laws.Tables
import Derived.ProofKit
import Derived.OpenShut
import Derived.SizedLaws
/- Steps that work out by themselves what they can: over any program. -/

namespace Go.Dbr
open Go Go.RowKit

/-! ## values that are told in another form -/
structure FV where
  raw : Value
  fin : Value
  eq : raw = fin
def g_i (k : IntKind) {e z : Int} (h : e = z) : FV := ⟨.int k e, .int k z, by rw [h]⟩
def g_b {a b : Bool} (h : a = b) : FV := ⟨.bool a, .bool b, by rw [h]⟩
def g_v {u v : Value} (h : u = v) : FV := ⟨u, v, h⟩
theorem w_r {e x : Int} (h : e = x) (h1 : -9223372036854775808 ≤ x := by omega) (h2 : x ≤ 9223372036854775807 := by omega) : IntKind.wrap .i64 e = x := wr64 h h1 h2
theorem w_a (a b : Nat) (h : a + b ≤ 9223372036854775807 := by omega) : IntKind.wrap .i64 (((a : Nat) : Int) + ((b : Nat) : Int)) = ((a + b : Nat) : Int) := wr64 (by omega) (by omega) (by omega)
theorem w_m (a b : Nat) (h : a * b ≤ 9223372036854775807 := by omega) : IntKind.wrap .i64 (((a : Nat) : Int) * ((b : Nat) : Int)) = ((a * b : Nat) : Int) := wr64 (Int.natCast_mul a b).symm (by omega) (by omega)
def g_n {e z : Int} (h : IntKind.wrap .i64 e = z) : FV := ⟨.int .i64 (IntKind.wrap .i64 e), .int .i64 z, by rw [h]⟩

def fvAt : List (Nat × FV) → Nat → Option FV
  | [], _ => none
  | (i, f) :: r, t => bif Nat.beq i t then some f else fvAt r t
def finOf (fs : List (Nat × FV)) (i : Nat) (v : Value) : Value := match fvAt fs i with
  | some f => f.fin
  | none => v
def rawOf (fs : List (Nat × FV)) (i : Nat) (v : Value) : Value := match fvAt fs i with
  | some f => f.raw
  | none => v
theorem raw_fin (fs : List (Nat × FV)) (i : Nat) (v : Value) : rawOf fs i v = finOf fs i v := by
  unfold rawOf finOf
  cases fvAt fs i with
  | none => rfl
  | some f => exact f.eq

section
variable (P : Program) (ops : Array Oper) (n : Nat)
def valAt (l : List (Nat × Value)) (i : Nat) : Value :=
  match opAt ops n i l with
  | some (.run _ s) => match s.run P default with
    | .ok (.value v) _ => v
    | _ => undef
  | _ => undef
def nextL (fs : List (Nat × FV)) (l : List (Nat × Value)) (i : Nat) : List (Nat × Value) :=
  match opAt ops n i l with
  | some (.run d _) => putl d (finOf fs i (valAt P ops n l i)) l
  | some (.skip d) => putl d undef l
  | none => l
def resA (w : World) (l : List (Nat × Value)) (i : Nat) : Option (Result Next) :=
  match opAt ops n i l with
  | some (.run _ s) => some (s.run P w)
  | some (.skip _) => some (.ok (.value undef) w)
  | none => none
def expA (fs : List (Nat × FV)) (w : World) (l : List (Nat × Value)) (i : Nat) : Option (Result Next) := some (.ok (.value (rawOf fs i (valAt P ops n l i))) w)
def resL (fs : List (Nat × FV)) (w : World) : List (Nat × Value) → Nat → Nat → List (Option (Result Next))
  | _, _, 0 => []
  | l, i, m + 1 => resA P ops n w l i :: resL fs w (nextL P ops n fs l i) (i + 1) m
def expL (fs : List (Nat × FV)) (w : World) : List (Nat × Value) → Nat → Nat → List (Option (Result Next))
  | _, _, 0 => []
  | l, i, m + 1 => expA P ops n fs w l i :: expL fs w (nextL P ops n fs l i) (i + 1) m
def endL (fs : List (Nat × FV)) : List (Nat × Value) → Nat → Nat → List (Nat × Value)
  | l, _, 0 => l
  | l, i, m + 1 => endL fs (nextL P ops n fs l i) (i + 1) m
end

section
variable {P : Program} {ops : Array Oper} {Q : Exit → Act → World → Prop} {n i : Nat} {l : List (Nat × Value)} {a : Act} {w w0 : World} {d : Option Tmp} {L L0 : List Ent} {K : Act → World → Prop}

theorem dense_go (fs : List (Nat × FV)) : ∀ (m i : Nat) (l : List (Nat × Value)) (a : Act), Env a n l → resL P ops n fs w l i m = expL P ops n fs w l i m →
    (∀ a', Env a' n (endL P ops n fs l i m) → From P ops Q (i + m) a' w) → From P ops Q i a w
  | 0, i, l, a, E, _, next => next a E
  | m + 1, i, l, a, E, h, next => by
    simp only [resL, expL, List.cons.injEq] at h
    obtain ⟨h1, h2⟩ := h
    have go : ∀ a', Env a' n (nextL P ops n fs l i) → From P ops Q (i + 1) a' w := fun a' E' => dense_go fs m (i + 1) _ a' E' h2 fun a'' E'' => by
      have := next a'' E''
      rwa [show i + (m + 1) = i + 1 + m by omega] at this
    unfold resA expA at h1
    unfold nextL at go
    cases ho : opAt ops n i l with
    | none => simp [ho] at h1
    | some x =>
      cases x with
      | run d s =>
        simp only [ho, Option.some.injEq] at h1 go
        rw [raw_fin] at h1
        exact step_run E ho h1 go
      | skip d =>
        simp only [ho] at go
        exact step_skip E ho go

/-- some operations without memory -/
theorem d_k (ls : List Nat) (fs : List (Nat × FV)) (k : Nat) (E : Env a n l) (next : ∀ a', Env a' n (keepL ls (endL P ops n fs l i (k - i))) → From P ops Q k a' w)
    (h : (fun w => resL P ops n fs w l i (k - i)) = fun w => expL P ops n fs w l i (k - i) := by kernel_rfl) (hk : i + (k - i) = k := by kernel_rfl) : From P ops Q i a w :=
  dense_go fs (k - i) i l a E (congrFun h w) fun a' E' => by rw [hk]; exact next a' (E'.keep ls)
/-- .. up to the region's end -/
theorem d_e (ls : List Nat) (fs : List (Nat × FV)) (E : Env a n l) (next : ∀ a', Env a' n (keepL ls (endL P ops n fs l i (ops.size - i))) → Q .normal a' w)
    (h : (fun w => resL P ops n fs w l i (ops.size - i)) = fun w => expL P ops n fs w l i (ops.size - i) := by kernel_rfl) (hk : i + (ops.size - i) = ops.size := by kernel_rfl) : From P ops Q i a w :=
  dense_go fs (ops.size - i) i l a E (congrFun h w) fun a' E' => from_end hk.symm (next a' (E'.keep ls))
/-- a whole region -/
theorem d_r {id : Nat} (ls : List Nat) (fs : List (Nat × FV)) (E : Env a n l) (next : ∀ a', Env a' n (keepL ls (endL P ops n fs l 0 (ops.size - 0))) → Q .normal a' w)
    (h : (fun w => resL P ops n fs w l 0 (ops.size - 0)) = fun w => expL P ops n fs w l 0 (ops.size - 0) := by kernel_rfl) : (Code.region id ops false).wp P Q a w :=
  region_from (d_e ls fs E next h (by omega))
theorem d_s {id : Nat} {y : Code} (ls : List Nat) (fs : List (Nat × FV)) (E : Env a n l) (next : ∀ a', Env a' n (keepL ls (endL P ops n fs l 0 (ops.size - 0))) → y.wp P Q a' w)
    (h : (fun w => resL P ops n fs w l 0 (ops.size - 0)) = fun w => expL P ops n fs w l 0 (ops.size - 0) := by kernel_rfl) : (Code.seq (Code.region id ops false) y).wp P Q a w :=
  wp_seq (d_r ls fs E next h)
theorem f_o (h : wpOp P ops Q i (From P ops Q (i + 1)) a w) (hi : Nat.blt i ops.size = true := by kernel_rfl) : From P ops Q i a w := from_op hi h
theorem f_e (h : Q .normal a w) (hs : ops.size = i := by kernel_rfl) : From P ops Q i a w := from_end hs h

/-- a slot is told in another form -/
theorem Env.fx {t : Nat} {v u : Value} (E : Env a n l) (hv : v = u) (h : look l t = some v := by kernel_rfl) : Env a n ((t, u) :: l) := by
  subst hv
  refine ⟨E.size, E.defers, fun i x hx => ?_⟩
  by_cases e : t = i
  · subst e
    rw [look_self] at hx
    rw [← hx]
    exact E.slot t v h
  · rw [look_other _ _ e] at hx
    exact E.slot i x hx
theorem Env.sb {l' : List (Nat × Value)} (E : Env a n l) (h : l'.map (fun p => look l p.1) = l'.map (fun p => some p.2) := by kernel_rfl) : Env a n l' := E.sub h
def nodupB : List Nat → Bool
  | [] => true
  | i :: r => !r.contains i && nodupB r
theorem nodup_of : ∀ {l : List Nat}, nodupB l = true → l.Nodup
  | [], _ => List.nodup_nil
  | i :: r, h => by
    simp only [nodupB, Bool.and_eq_true, Bool.not_eq_true'] at h
    refine List.nodup_cons.2 ⟨fun hm => ?_, nodup_of h.2⟩
    have := List.contains_iff_mem.2 hm
    rw [h.1] at this
    cases this
theorem Ev.pk {w' : World} {L' : List Ent} (h : Ev w L w' L') (is : List Nat) {M : List Ent} (hm : M.map some = is.map (fun i => L'[i]?) := by kernel_rfl) (nd : nodupB is = true := by kernel_rfl) : Ev w L w' M := h.pick is hm (nodup_of nd)
theorem Heap.pk (h : Heap w L) (is : List Nat) {M : List Ent} (hm : M.map some = is.map (fun i => L[i]?) := by kernel_rfl) (nd : nodupB is = true := by kernel_rfl) : Heap w M := h.pick is hm (nodup_of nd)

/-! ## conditions -/
theorem c_d {c : Nat} {x y : Code} (p : Prop) [Decidable p] (E : Env a n l) (ht : p → x.wp P Q a w) (hf : ¬ p → y.wp P Q a w) (hc : look l c = some (.bool (decide p)) := by kernel_rfl) : (Code.cond (.tmp c) x y).wp P Q a w :=
  cond_at E hc (fun h => ht (of_decide_eq_true h)) (fun h => hf (of_decide_eq_false h))
theorem c_e {c : Nat} {x y : Code} (u v : Int) (E : Env a n l) (ht : u = v → x.wp P Q a w) (hf : ¬ u = v → y.wp P Q a w) (hc : look l c = some (.bool (u == v)) := by kernel_rfl) : (Code.cond (.tmp c) x y).wp P Q a w :=
  cond_at E hc (fun h => ht (eq_of_beq h)) (fun h => hf (ne_of_beq_false h))
theorem c_n {c : Nat} {x y : Code} (u v : Int) (E : Env a n l) (ht : ¬ u = v → x.wp P Q a w) (hf : u = v → y.wp P Q a w) (hc : look l c = some (.bool (u != v)) := by kernel_rfl) : (Code.cond (.tmp c) x y).wp P Q a w :=
  cond_at E hc (fun h => ht (by simpa using h)) (fun h => hf (by simpa using h))
theorem c_t {c : Nat} {x y : Code} (E : Env a n l) (h : x.wp P Q a w) (hc : look l c = some (.bool true) := by kernel_rfl) : (Code.cond (.tmp c) x y).wp P Q a w := cond_true E hc rfl h
theorem c_f {c : Nat} {x y : Code} (E : Env a n l) (h : y.wp P Q a w) (hc : look l c = some (.bool false) := by kernel_rfl) : (Code.cond (.tmp c) x y).wp P Q a w := cond_false E hc rfl h

/-! ## memory -/
def opD (ops : Array Oper) (i : Nat) : Option Tmp := match ops[i]? with
  | some o => o.dst
  | none => none
def opTy (ops : Array Oper) (i : Nat) : TypeId := match ops[i]? with
  | some o => match o.op with
    | .load t _ => t
    | .store t _ _ => t
    | .alloc t => t
    | .box t _ => t
    | _ => 0
  | none => 0
def opV (ops : Array Oper) (l : List (Nat × Value)) (i k : Nat) : Value := match ops[i]? with
  | some o => val l (o.op.operands.getD k (.const undef))
  | none => undef
def adV : Value → Addr
  | .pointer (some a) => a
  | _ => ⟨0, 0, none⟩
def offV (v : Value) : Nat := (adV v).off
def boxB (L : List Ent) (k : Nat) : Nat := match L[k]? with
  | some (.box b _ _) => b
  | _ => 0
def boxC (L : List Ent) (k : Nat) : List Value := match L[k]? with
  | some (.box _ cs _) => cs
  | _ => []
def boxT (L : List Ent) (k : Nat) : TypeId := match L[k]? with
  | some (.box _ _ T) => T
  | _ => 0
def cellV (L : List Ent) (k off : Nat) : Value := match (boxC L k)[off]? with
  | some v => v
  | none => undef
/-- a load of a cell -/
theorem m_l (k : Nat) (E : Env a n l) (H : Ev w0 L0 w L) (next : ∀ a', Env a' n (putl (opD ops i) (cellV L k (offV (opV ops l i 0))) l) → K a' w)
    (h : opAt ops n i l = some (.run (opD ops i) (nv (Instr.loadAt (opTy ops i) (.pointer (some ⟨boxB L k, offV (opV ops l i 0), none⟩))))) := by kernel_rfl)
    (hk : L[k]? = some (.box (boxB L k) (boxC L k) (boxT L k)) := by kernel_rfl) (hv : (boxC L k)[offV (opV ops l i 0)]? = some (cellV L k (offV (opV ops l i 0))) := by kernel_rfl)
    (ht : (fun w => (isAgg (opTy ops i)).run P w) = fun w => .ok false w := by kernel_rfl) : wpOp P ops Q i K a w := op_loadbox E h H hk hv ht next
/-- .. of a cell whose value is told -/
theorem m_v (k off : Nat) (v : Value) (E : Env a n l) (H : Ev w0 L0 w L) {b : Nat} {cs : List Value} {T : TypeId} (hk : L[k]? = some (.box b cs T)) (hv : cs[off]? = some v) (next : ∀ a', Env a' n (putl (opD ops i) v l) → K a' w)
    (h : opAt ops n i l = some (.run (opD ops i) (nv (Instr.loadAt (opTy ops i) (.pointer (some ⟨b, off, none⟩))))) := by kernel_rfl)
    (ht : (fun w => (isAgg (opTy ops i)).run P w) = fun w => .ok false w := by kernel_rfl) : wpOp P ops Q i K a w := op_loadbox E h H hk hv ht next
/-- a load of several cells -/
theorem m_a (k off m : Nat) (xs : List Value) (E : Env a n l) (H : Ev w0 L0 w L) {b : Nat} {cs : List Value} {T : TypeId} (hk : L[k]? = some (.box b cs T)) (hx : (cs.drop off).take m = xs) (hm : xs.length = m) (next : ∀ a', Env a' n (putl (opD ops i) (.agg xs.toArray) l) → K a' w)
    (h : opAt ops n i l = some (.run (opD ops i) (nv (Instr.loadAt (opTy ops i) (.pointer (some ⟨b, off, none⟩))))) := by kernel_rfl)
    (ht : (fun w => (isAgg (opTy ops i)).run P w) = fun w => .ok true w := by kernel_rfl) (hs : (fun w => (sizeOf (opTy ops i)).run P w) = fun w => .ok m w := by kernel_rfl) : wpOp P ops Q i K a w := op_loadaggbox E h H hk hx hm ht hs next
/-- a store of a cell -/
theorem m_s (k : Nat) (L' : List Ent) (E : Env a n l) (H : Ev w0 L0 w L) (next : ∀ a' w', Env a' n (putl (opD ops i) undef l) → Ev w0 L0 w' L' → K a' w')
    (h : opAt ops n i l = some (.run (opD ops i) (nu (Instr.storeAt (opTy ops i) (.pointer (some ⟨boxB L k, offV (opV ops l i 0), none⟩)) (opV ops l i 1)))) := by kernel_rfl)
    (hk : L[k]? = some (.box (boxB L k) (boxC L k) (boxT L k)) := by kernel_rfl) (ho : (boxC L k)[offV (opV ops l i 0)]? = some (cellV L k (offV (opV ops l i 0))) := by kernel_rfl)
    (hs : (fun w => (sizeOf (opTy ops i)).run P w) = fun w => .ok 1 w := by kernel_rfl) (hv : (opV ops l i 1).oneCell' = true := by kernel_rfl)
    (hL : L.set k (.box (boxB L k) ((boxC L k).set (offV (opV ops l i 0)) (opV ops l i 1)) (boxT L k)) = L' := by kernel_rfl) : wpOp P ops Q i K a w := op_storebox E h H hk ho hs hv hL next
/-- .. where the cells behind it are told -/
theorem m_t (k off : Nat) (v : Value) (L' : List Ent) (E : Env a n l) (H : Ev w0 L0 w L) {b : Nat} {cs cs' : List Value} {T : TypeId} {old : Value} (hk : L[k]? = some (.box b cs T)) (ho : cs[off]? = some old) (hc : cs.set off v = cs') (hL : L.set k (.box b cs' T) = L')
    (next : ∀ a' w', Env a' n (putl (opD ops i) undef l) → Ev w0 L0 w' L' → K a' w')
    (h : opAt ops n i l = some (.run (opD ops i) (nu (Instr.storeAt (opTy ops i) (.pointer (some ⟨b, off, none⟩)) v))) := by kernel_rfl)
    (hs : (fun w => (sizeOf (opTy ops i)).run P w) = fun w => .ok 1 w := by kernel_rfl) (hv : v.oneCell' = true := by kernel_rfl) : wpOp P ops Q i K a w := by
  subst hc
  exact op_storebox E h H hk ho hs hv hL next
/-- a store of several cells -/
theorem m_g (k off m : Nat) (xs cs' : List Value) (L' : List Ent) (E : Env a n l) (H : Ev w0 L0 w L) {b : Nat} {cs : List Value} {T : TypeId} (hk : L[k]? = some (.box b cs T)) (hm : xs.length = m) (hl : off + m ≤ cs.length) (h1 : ∀ u ∈ xs, u.oneCell' = true) (hc : cs.take off ++ xs ++ cs.drop (off + m) = cs') (hL : L.set k (.box b cs' T) = L')
    (next : ∀ a' w', Env a' n (putl (opD ops i) undef l) → Ev w0 L0 w' L' → K a' w')
    (h : opAt ops n i l = some (.run (opD ops i) (nu (Instr.storeAt (opTy ops i) (.pointer (some ⟨b, off, none⟩)) (opV ops l i 1)))) := by kernel_rfl)
    (hv : (opV ops l i 1).cells = xs.toArray := by kernel_rfl)
    (hs : (fun w => (sizeOf (opTy ops i)).run P w) = fun w => .ok m w := by kernel_rfl) : wpOp P ops Q i K a w := op_storeaggbox E h H hk hv hm hl hs h1 hc hL next
/-- a new variable, its cells told -/
theorem m_m (T : TypeId) (cs : List Value) (E : Env a n l) (H : Ev w0 L0 w L) (next : ∀ a' w' b, Env a' n (putl (opD ops i) (.pointer (some ⟨b, 0, none⟩)) l) → Ev w0 L0 w' (L ++ [.box b cs T]) → K a' w')
    (h : opAt ops n i l = some (.run (opD ops i) (nv (Instr.box T (opV ops l i 0)))) := by kernel_rfl) (hc : (opV ops l i 0).cells.toList = cs := by kernel_rfl) : wpOp P ops Q i K a w := op_newbox E h hc H next
def zeroV (P : Program) (t : TypeId) : Value := match (zeroValue t).run P default with
  | .ok v _ => v
  | _ => undef
/-- a variable whose address is taken -/
theorem m_z (T : TypeId) (cs : List Value) (E : Env a n l) (H : Ev w0 L0 w L) (next : ∀ a' w' b, Env a' n (putl (opD ops i) (.pointer (some ⟨b, 0, none⟩)) l) → Ev w0 L0 w' (L ++ [.box b cs T]) → K a' w')
    (h : opAt ops n i l = some (.run (opD ops i) (nv (Instr.alloc T true (.tuple #[])))) := by kernel_rfl) (hz : (fun w => (zeroValue T).run P w) = fun w => .ok (zeroV P T) w := by kernel_rfl)
    (hc : (zeroV P T).cells.toList = cs := by kernel_rfl) : wpOp P ops Q i K a w := op_alloc E h hz hc H next

/-! ## calls -/
def restI (is : List Nat) (m : Nat) : List Nat := (List.range m).filter fun i => !is.contains i
def restE (L : List Ent) (is : List Nat) : List Ent := (restI is L.length).filterMap fun i => L[i]?
theorem rest_map {L : List Ent} : ∀ {js : List Nat}, (∀ j ∈ js, j < L.length) → (js.filterMap fun i => L[i]?).map some = js.map fun i => L[i]?
  | [], _ => rfl
  | j :: r, h => by
    have hj := h j (by simp)
    rw [List.filterMap_cons, List.getElem?_eq_getElem hj]
    simp only [List.map_cons]
    rw [rest_map fun k hk => h k (by simp [hk]), List.getElem?_eq_getElem hj]
theorem restI_nodup {is : List Nat} (h : is.Nodup) (m : Nat) : (is ++ restI is m).Nodup := by
  rw [List.nodup_append]
  refine ⟨h, (List.nodup_range).filter _, fun a ha b hb e => ?_⟩
  subst e
  have := (List.mem_filter.1 hb).2
  simp only [Bool.not_eq_true'] at this
  have h2 := List.contains_iff_mem.2 ha
  rw [this] at h2
  cases h2
/-- entries 'is' go along -/
theorem c_l (is : List Nat) {f : FuncId} {args : Array Value} {M : List Ent} {post : Ending → World → Prop} (E : Env a n l) (H : Ev w0 L0 w L) (hc : Heap w M → Calls P f args w post)
    (next : ∀ e w', post e w' → ∃ v M' L', e = .returned v ∧ Ev w M w' M' ∧ M' ++ restE L is = L' ∧ ∀ a', Env a' n (putl (opD ops i) v l) → Ev w0 L0 w' L' → K a' w')
    (h : opRuns P ops n i l = some (opD ops i, fun w => .ok (.enter f args) w) := by kernel_rfl) (hm : M.map some = is.map (fun i => L[i]?) := by kernel_rfl) (nd : nodupB is = true := by kernel_rfl) : wpOp P ops Q i K a w := by
  refine op_call E h ((hc (H.heap.pick is hm (nodup_of nd))).mono fun e w' he => ?_)
  obtain ⟨v, M', L', he1, he2, rfl, hn⟩ := next e w' he
  refine ⟨v, he1, fun a' E' => hn a' E' (H.trans (Ev.call H.heap (is ++ restI is L.length) ?_ (restI_nodup (nodup_of nd) _) he2))⟩
  rw [List.map_append, List.map_append, hm]
  congr 1
  exact rest_map fun j hj => List.mem_range.1 (List.mem_filter.1 hj).1
/-- nothing goes along -/
theorem c_0 {f : FuncId} {args : Array Value} {post : Ending → World → Prop} (E : Env a n l) (H : Ev w0 L0 w L) (hc : Calls P f args w post)
    (next : ∀ e w', post e w' → ∃ v M' L', e = .returned v ∧ Ev w [] w' M' ∧ M' ++ L = L' ∧ ∀ a', Env a' n (putl (opD ops i) v l) → Ev w0 L0 w' L' → K a' w')
    (h : opRuns P ops n i l = some (opD ops i, fun w => .ok (.enter f args) w) := by kernel_rfl) : wpOp P ops Q i K a w := by
  refine op_call E h (hc.mono fun e w' he => ?_)
  obtain ⟨v, M', L', he1, he2, rfl, hn⟩ := next e w' he
  exact ⟨v, he1, fun a' E' => hn a' E' (H.trans (Ev.frame (R := L) (L := []) H.heap he2))⟩

/-- a function that changes nothing -/
theorem c_p {f : FuncId} {args : Array Value} {v : Value} (E : Env a n l) (H : Ev w0 L0 w L) (hc : Calls P f args w fun e w' => e = .returned v ∧ Ev w [] w' [])
    (next : ∀ a' w', Env a' n (putl (opD ops i) v l) → Ev w0 L0 w' L → K a' w')
    (h : opRuns P ops n i l = some (opD ops i, fun w => .ok (.enter f args) w) := by kernel_rfl) : wpOp P ops Q i K a w :=
  c_0 E H hc (fun _ w' ⟨he1, he2⟩ => ⟨v, [], L, he1, he2, rfl, fun a' E' H' => next a' w' E' H'⟩) h
/-- the start of a function -/
theorem d_0 {P : Program} {f : FuncId} {args : Array Value} {R : Ending → World → Prop} {w : World} {L : List Ent} (l : List (Nat × Value)) (n : Nat) {fn : Func} {c : Code} (hf : P.funcs[f]? = some fn) (hn : fn.ntmps = n) (hH : Heap w L)
    (h : ∀ a, Env a n l → Ev w L w L → c.wp P (bodyPost P fn R) a w) (hb : fn.body = some c := by rfl) (hs : Nat.ble args.size n = true := by kernel_rfl) (hl : l.map (fun p => args[p.1]?) = l.map (fun p => some p.2) := by kernel_rfl) : Calls P f args w R :=
  d_start l n hf hn hb hs hl fun a E => h a E (Ev.refl hH)

/-! ## regions whose order is drawn -/
section
variable {S : World → Prop} {St : List Nat}
def condL (ops : Array Oper) (St : List Nat) : List Nat → Array Bool → Bool
  | [], _ => true
  | i :: r, listed => (Region.noSelect ops && Region.free .any ops listed i && (Region.ready .any ops listed).contains i && (St.all fun s => s != i)) && condL ops St r (listed.setIfInBounds i true)
def doneL : List Nat → Array Bool → Array Bool
  | [], listed => listed
  | i :: r, listed => doneL r (listed.setIfInBounds i true)
def resI (P : Program) (ops : Array Oper) (n : Nat) (fs : List (Nat × FV)) (w : World) : List (Nat × Value) → List Nat → List (Option (Result Next))
  | _, [] => []
  | l, i :: r => resA P ops n w l i :: resI P ops n fs w (nextL P ops n fs l i) r
def expI (P : Program) (ops : Array Oper) (n : Nat) (fs : List (Nat × FV)) (w : World) : List (Nat × Value) → List Nat → List (Option (Result Next))
  | _, [] => []
  | l, i :: r => expA P ops n fs w l i :: expI P ops n fs w (nextL P ops n fs l i) r
def endI (P : Program) (ops : Array Oper) (n : Nat) (fs : List (Nat × FV)) : List (Nat × Value) → List Nat → List (Nat × Value)
  | l, [] => l
  | l, i :: r => endI P ops n fs (nextL P ops n fs l i) r
theorem hs_go {F : Act → World → Prop} (fs : List (Nat × FV)) (hS : S w) : ∀ (is : List Nat) (m : Nat) (l : List (Nat × Value)) (listed : Array Bool) (a : Act), Env a n l → (fun w => resI P ops n fs w l is) = (fun w => expI P ops n fs w l is) → condL ops St is listed = true →
    (∀ a', Env a' n (endI P ops n fs l is) → wpAnyS P ops (HQ F) S St m (doneL is listed) a' w) → wpAnyS P ops (HQ F) S St (m + is.length) listed a w
  | [], m, l, listed, a, E, _, _, next => next a E
  | i :: r, m, l, listed, a, E, h, hc, next => by
    have h1 : ∀ w, resA P ops n w l i = expA P ops n fs w l i := fun w => (List.cons.inj (congrFun h w)).1
    have h2 : (fun w => resI P ops n fs w (nextL P ops n fs l i) r) = fun w => expI P ops n fs w (nextL P ops n fs l i) r := funext fun w => (List.cons.inj (congrFun h w)).2
    have hc1 : (Region.noSelect ops && Region.free .any ops listed i && (Region.ready .any ops listed).contains i && (St.all fun s => s != i)) = true ∧ condL ops St r (listed.setIfInBounds i true) = true := (Bool.and_eq_true _ _).mp hc
    have go : ∀ a', Env a' n (nextL P ops n fs l i) → wpAnyS P ops (HQ F) S St (m + r.length) (listed.setIfInBounds i true) a' w := fun a' E' => hs_go fs hS r m _ _ a' E' h2 hc1.2 next
    show wpAnyS P ops (HQ F) S St (m + r.length + 1) listed a w
    unfold resA expA at h1
    unfold nextL at go
    cases ho : opAt ops n i l with
    | none => have := h1 w; simp [ho] at this
    | some x =>
      cases x with
      | run d s =>
        simp only [ho, Option.some.injEq] at h1 go
        rw [raw_fin] at h1
        exact h_free E i ho h1 hc1.1 rfl (fun _ => hS) go
      | skip d =>
        simp only [ho] at go
        exact h_skip E i ho hc1.1 rfl (fun _ => hS) go
theorem hs_go' {F : Act → World → Prop} (fs : List (Nat × FV)) : ∀ (is : List Nat) (m : Nat) (l : List (Nat × Value)) (listed : Array Bool) (a : Act), Env a n l → (fun w => resI P ops n fs w l is) = (fun w => expI P ops n fs w l is) → condL ops St is listed = true → (St.all fun s => !listed.getD s true) = false →
    (∀ a', Env a' n (endI P ops n fs l is) → wpAnyS P ops (HQ F) S St m (doneL is listed) a' w) → wpAnyS P ops (HQ F) S St (m + is.length) listed a w
  | [], m, l, listed, a, E, _, _, _, next => next a E
  | i :: r, m, l, listed, a, E, h, hc, hf, next => by
    have h1 : ∀ w, resA P ops n w l i = expA P ops n fs w l i := fun w => (List.cons.inj (congrFun h w)).1
    have h2 : (fun w => resI P ops n fs w (nextL P ops n fs l i) r) = fun w => expI P ops n fs w (nextL P ops n fs l i) r := funext fun w => (List.cons.inj (congrFun h w)).2
    have hc1 : (Region.noSelect ops && Region.free .any ops listed i && (Region.ready .any ops listed).contains i && (St.all fun s => s != i)) = true ∧ condL ops St r (listed.setIfInBounds i true) = true := (Bool.and_eq_true _ _).mp hc
    have hf' : (St.all fun s => !(listed.setIfInBounds i true).getD s true) = false := by
      rw [Bool.eq_false_iff] at hf ⊢
      intro hall
      apply hf
      rw [List.all_eq_true] at hall ⊢
      intro s hs
      have h3 := hall s hs
      have h4 : s ≠ i := by
        have := hc1.1
        simp only [Bool.and_eq_true, List.all_eq_true] at this
        exact by simpa using this.2 s hs
      rwa [getD_set_keep (Ne.symm h4)] at h3
    have go : ∀ a', Env a' n (nextL P ops n fs l i) → wpAnyS P ops (HQ F) S St (m + r.length) (listed.setIfInBounds i true) a' w := fun a' E' => hs_go' fs r m _ _ a' E' h2 hc1.2 hf' next
    show wpAnyS P ops (HQ F) S St (m + r.length + 1) listed a w
    unfold resA expA at h1
    unfold nextL at go
    cases ho : opAt ops n i l with
    | none => have := h1 w; simp [ho] at this
    | some x =>
      cases x with
      | run d s =>
        simp only [ho, Option.some.injEq] at h1 go
        rw [raw_fin] at h1
        exact h_free E i ho h1 hc1.1 rfl (fun h => by rw [hf] at h; cases h) go
      | skip d =>
        simp only [ho] at go
        exact h_skip E i ho hc1.1 rfl (fun h => by rw [hf] at h; cases h) go
/-- operations without memory, one behind the other; what is held still stands -/
theorem q_s {F : Act → World → Prop} {m : Nat} {listed : Array Bool} (is : List Nat) (fs : List (Nat × FV)) (m' : Nat) (E : Env a n l) (hS : S w) (next : ∀ a', Env a' n (endI P ops n fs l is) → wpAnyS P ops (HQ F) S St m' (doneL is listed) a' w)
    (h : (fun w => resI P ops n fs w l is) = (fun w => expI P ops n fs w l is) := by kernel_rfl) (hc : condL ops St is listed = true := by kernel_rfl) (hm : m = m' + is.length := by kernel_rfl) : wpAnyS P ops (HQ F) S St m listed a w := by
  subst hm
  exact hs_go fs hS is m' l listed a E h hc next
/-- .. no more -/
theorem q_n {F : Act → World → Prop} {m : Nat} {listed : Array Bool} (is : List Nat) (fs : List (Nat × FV)) (m' : Nat) (E : Env a n l) (next : ∀ a', Env a' n (endI P ops n fs l is) → wpAnyS P ops (HQ F) S St m' (doneL is listed) a' w)
    (h : (fun w => resI P ops n fs w l is) = (fun w => expI P ops n fs w l is) := by kernel_rfl) (hc : condL ops St is listed = true := by kernel_rfl) (hf : (St.all fun s => !listed.getD s true) = false := by kernel_rfl) (hm : m = m' + is.length := by kernel_rfl) : wpAnyS P ops (HQ F) S St m listed a w := by
  subst hm
  exact hs_go' fs is m' l listed a E h hc hf next
theorem any_go {F : Act → World → Prop} (fs : List (Nat × FV)) : ∀ (is : List Nat) (m : Nat) (l : List (Nat × Value)) (listed : Array Bool) (a : Act), Env a n l → (fun w => resI P ops n fs w l is) = (fun w => expI P ops n fs w l is) → condL ops [] is listed = true →
    (∀ a', Env a' n (endI P ops n fs l is) → wpAny P .any ops (HQ F) m (doneL is listed) a' w) → wpAny P .any ops (HQ F) (m + is.length) listed a w
  | [], m, l, listed, a, E, _, _, next => next a E
  | i :: r, m, l, listed, a, E, h, hc, next => by
    have h1 : ∀ w, resA P ops n w l i = expA P ops n fs w l i := fun w => (List.cons.inj (congrFun h w)).1
    have h2 : (fun w => resI P ops n fs w (nextL P ops n fs l i) r) = fun w => expI P ops n fs w (nextL P ops n fs l i) r := funext fun w => (List.cons.inj (congrFun h w)).2
    have hc1 : (Region.noSelect ops && Region.free .any ops listed i && (Region.ready .any ops listed).contains i && (([] : List Nat).all fun s => s != i)) = true ∧ condL ops [] r (listed.setIfInBounds i true) = true := (Bool.and_eq_true _ _).mp hc
    have hc2 : (Region.noSelect ops && Region.free .any ops listed i && (Region.ready .any ops listed).contains i) = true := ((Bool.and_eq_true _ _).mp hc1.1).1
    have go : ∀ a', Env a' n (nextL P ops n fs l i) → wpAny P .any ops (HQ F) (m + r.length) (listed.setIfInBounds i true) a' w := fun a' E' => any_go fs r m _ _ a' E' h2 hc1.2 next
    show wpAny P .any ops (HQ F) (m + r.length + 1) listed a w
    unfold resA expA at h1
    unfold nextL at go
    cases ho : opAt ops n i l with
    | none => have := h1 w; simp [ho] at this
    | some x =>
      cases x with
      | run d s =>
        simp only [ho, Option.some.injEq] at h1 go
        rw [raw_fin] at h1
        exact any_pure E i ho (funext h1) hc2 rfl go
      | skip d =>
        simp only [ho] at go
        exact any_skip E i ho hc2 rfl go
theorem q_a {F : Act → World → Prop} {m : Nat} {listed : Array Bool} (is : List Nat) (fs : List (Nat × FV)) (m' : Nat) (E : Env a n l) (next : ∀ a', Env a' n (endI P ops n fs l is) → wpAny P .any ops (HQ F) m' (doneL is listed) a' w)
    (h : (fun w => resI P ops n fs w l is) = (fun w => expI P ops n fs w l is) := by kernel_rfl) (hc : condL ops [] is listed = true := by kernel_rfl) (hm : m = m' + is.length := by kernel_rfl) : wpAny P .any ops (HQ F) m listed a w := by
  subst hm
  exact any_go fs is m' l listed a E h hc next
/-- a load of a cell of what is held -/
theorem q_l {F : Act → World → Prop} {Lh : List Ent} {m : Nat} {listed : Array Bool} (k i : Nat) (E : Env a n l) (hS : Ev w0 L0 w Lh)
    (next : ∀ a', Env a' n (putl (opD ops i) (cellV Lh k (offV (opV ops l i 0))) l) → wpAnyS P ops (HQ F) (fun wv => Ev w0 L0 wv Lh) St m (listed.setIfInBounds i true) a' w)
    (h : opAt ops n i l = some (.run (opD ops i) (nv (Instr.loadAt (opTy ops i) (.pointer (some ⟨boxB Lh k, offV (opV ops l i 0), none⟩))))) := by kernel_rfl)
    (hk : Lh[k]? = some (.box (boxB Lh k) (boxC Lh k) (boxT Lh k)) := by kernel_rfl) (hv : (boxC Lh k)[offV (opV ops l i 0)]? = some (cellV Lh k (offV (opV ops l i 0))) := by kernel_rfl)
    (ht : (fun w => (isAgg (opTy ops i)).run P w) = fun w => .ok false w := by kernel_rfl)
    (hc : (Region.noSelect ops && Region.free .any ops listed i && (Region.ready .any ops listed).contains i && (St.all fun s => waits ops i s && s != i) && (St.all fun s => !listed.getD s true) && closedB ops listed) = true := by kernel_rfl) :
    wpAnyS P ops (HQ F) (fun wv => Ev w0 L0 wv Lh) St (m + 1) listed a w :=
  h_read E i h (fun _ hS => run_nv (run_load1 ht (hS.heap.cell hk hv))) hc rfl hS next
theorem q_r {F : Act → World → Prop} {m : Nat} {listed : Array Bool} (i : Nat) {s : Sem Value} {v : Value} (E : Env a n l) (hv : ∀ w, S w → s.run P w = .ok v w) (hS : S w)
    (next : ∀ a', Env a' n (putl (opD ops i) v l) → wpAnyS P ops (HQ F) S St m (listed.setIfInBounds i true) a' w)
    (hr : opAt ops n i l = some (.run (opD ops i) (nv s)) := by kernel_rfl)
    (hc : (Region.noSelect ops && Region.free .any ops listed i && (Region.ready .any ops listed).contains i && (St.all fun s => waits ops i s && s != i) && (St.all fun s => !listed.getD s true) && closedB ops listed) = true := by kernel_rfl) :
    wpAnyS P ops (HQ F) S St (m + 1) listed a w :=
  h_read E i hr (fun w hS => run_nv (hv w hS)) hc rfl hS next
theorem q_f {F : Act → World → Prop} {m : Nat} {listed : Array Bool} (i : Nat) {s : Sem Value} {v : Value} (E : Env a n l) (hv : ∀ w, s.run P w = .ok v w) (hS : (St.all fun s => !listed.getD s true) = true → S w)
    (next : ∀ a', Env a' n (putl (opD ops i) v l) → wpAnyS P ops (HQ F) S St m (listed.setIfInBounds i true) a' w)
    (hr : opAt ops n i l = some (.run (opD ops i) (nv s)) := by kernel_rfl)
    (hc : (Region.noSelect ops && Region.free .any ops listed i && (Region.ready .any ops listed).contains i && (St.all fun s => s != i)) = true := by kernel_rfl) :
    wpAnyS P ops (HQ F) S St (m + 1) listed a w :=
  h_free E i hr (fun w => run_nv (hv w)) hc rfl hS next
theorem q_g {F : Act → World → Prop} {m : Nat} {listed : Array Bool} (i : Nat) {s : Sem Value} {v : Value} (E : Env a n l) (hv : ∀ w, s.run P w = .ok v w)
    (next : ∀ a', Env a' n (putl (opD ops i) v l) → wpAny P .any ops (HQ F) m (listed.setIfInBounds i true) a' w)
    (hr : opAt ops n i l = some (.run (opD ops i) (nv s)) := by kernel_rfl)
    (hc : (Region.noSelect ops && Region.free .any ops listed i && (Region.ready .any ops listed).contains i) = true := by kernel_rfl) :
    wpAny P .any ops (HQ F) (m + 1) listed a w :=
  any_pure E i hr (funext fun w => run_nv (hv w)) hc rfl next
theorem q_t {m : Nat} {listed : Array Bool} (i : Nat) (h : wpOp P ops Q i (fun a' w' => ((St.all fun s => !(listed.setIfInBounds i true).getD s true) = true → S w') ∧ wpAnyS P ops Q S St m (listed.setIfInBounds i true) a' w') a w)
    (hr : Region.ready .any ops listed = [i] := by kernel_rfl) : wpAnyS P ops Q S St (m + 1) listed a w := h_at i hr rfl h
theorem q_u {m : Nat} {listed : Array Bool} (i : Nat) (h : wpOp P ops Q i (wpAny P .any ops Q m (listed.setIfInBounds i true)) a w) (hr : Region.ready .any ops listed = [i] := by kernel_rfl) : wpAny P .any ops Q (m + 1) listed a w := any_at i hr rfl h
theorem h_s {F : Act → World → Prop} {id : Nat} (S : World → Prop) (St : List Nat) (m : Nat) (h : wpAnyS P ops (HQ F) S St m (Array.replicate m false) a w.drew) (hm : P.follows .mixedOrders = true := by kernel_rfl) (hs : ops.size = m := by kernel_rfl) : (Code.region id ops true).wp P (HQ F) a w := h_start S St hm m hs h
theorem h_e {F : Act → World → Prop} {m : Nat} {listed : Array Bool} (h : F a w) (hr : Region.ready .any ops listed = [] := by kernel_rfl) : wpAnyS P ops (HQ F) S St m listed a w := h_end hr h
theorem a_e {F : Act → World → Prop} {m : Nat} {listed : Array Bool} (h : F a w) (hr : Region.ready .any ops listed = [] := by kernel_rfl) : wpAny P .any ops (HQ F) m listed a w := any_end hr h
theorem r_c {c : Code} (F : Act → World → Prop) (h : c.wp P (HQ F) a w) (next : ∀ a' w', F a' w' → Q .normal a' w') : c.wp P Q a w := region_cut h next
theorem q_y {b : Bool} {p : Prop} (h : b = false := by kernel_rfl) : b = true → p := not_yet h
theorem q_v {x : Sem Value} {v : Value} (E : Env a n l) (hr : x.run P w = .ok v w) (next : ∀ a', Env a' n (putl (opD ops i) v l) → K a' w) (h : opAt ops n i l = some (.run (opD ops i) (nv x)) := by kernel_rfl) : wpOp P ops Q i K a w := op_val E h hr next
end
end
end Go.Dbr

/- Long drawn regions: that the operations don't disturb each other is checked once. -/

namespace Go.Dbr
open Go Go.RowKit
set_option linter.unusedSimpArgs false

def nodupO : List Oper → Nat → Bool
  | [], _ => true
  | o :: r, m => match o.dst with
    | some d => !Nat.testBit m d && nodupO r (m ||| 2 ^ d)
    | none => nodupO r m
theorem nodupO_spec : ∀ (l : List Oper) (m : Nat), nodupO l m = true → (∀ (i : Nat) (o : Oper) (d : Nat), l[i]? = some o → o.dst = some d → Nat.testBit m d = false) ∧ (∀ (i j : Nat) (o q : Oper) (d : Nat), l[i]? = some o → l[j]? = some q → o.dst = some d → q.dst = some d → i = j)
  | [], m, _ => ⟨fun i o d h => by simp at h, fun i j o q d h => by simp at h⟩
  | x :: r, m, h => by
    unfold nodupO at h
    cases hd : x.dst with
    | none =>
      rw [hd] at h
      obtain ⟨h1, h2⟩ := nodupO_spec r m h
      constructor
      · intro i o d hi ho
        cases i with
        | zero => simp at hi; subst hi; rw [hd] at ho; cases ho
        | succ i => exact h1 i o d (by simpa using hi) ho
      · intro i j o q d hi hj ho hq
        cases i with
        | zero => simp at hi; subst hi; rw [hd] at ho; cases ho
        | succ i =>
          cases j with
          | zero => simp at hj; subst hj; rw [hd] at hq; cases hq
          | succ j => rw [h2 i j o q d (by simpa using hi) (by simpa using hj) ho hq]
    | some c =>
      rw [hd] at h
      simp only [Bool.and_eq_true, Bool.not_eq_true'] at h
      obtain ⟨h1, h2⟩ := nodupO_spec r _ h.2
      have key : ∀ (i : Nat) (o : Oper) (d : Nat), r[i]? = some o → o.dst = some d → Nat.testBit m d = false ∧ c ≠ d := fun i o d hi ho => by
        have := h1 i o d hi ho
        rw [Nat.testBit_or, Bool.or_eq_false_iff] at this
        refine ⟨this.1, fun e => ?_⟩
        subst e
        rw [Nat.testBit_two_pow_self] at this
        cases this.2
      constructor
      · intro i o d hi ho
        cases i with
        | zero => simp at hi; subst hi; rw [hd] at ho; cases ho; exact h.1
        | succ i => exact (key i o d (by simpa using hi) ho).1
      · intro i j o q d hi hj ho hq
        cases i with
        | zero =>
          cases j with
          | zero => rfl
          | succ j => simp at hi; subst hi; rw [hd] at ho; cases ho; exact absurd rfl (key j q _ (by simpa using hj) hq).2
        | succ i =>
          cases j with
          | zero => simp at hj; subst hj; rw [hd] at hq; cases hq; exact absurd rfl (key i o _ (by simpa using hi) ho).2
          | succ j => rw [h2 i j o q d (by simpa using hi) (by simpa using hj) ho hq]
section
variable {P : Program} {ops : Array Oper} {Q : Exit → Act → World → Prop} {S : World → Prop} {n i : Nat} {l : List (Nat × Value)} {a : Act} {w : World}
end
end Go.Dbr

/- Drawn regions whose operations each yield their value in every world that keeps what stands: one fact an operation. -/

namespace Go.Dbr
open Go Go.RowKit
set_option linter.unusedSimpArgs false
set_option linter.unusedVariables false

/-! ## who waits for whom, by masks -/
def cloStep (acc : List Nat) : List Edge → Nat
  | [] => 0
  | e :: r => bif Region.binds .any e then 2 ^ e.on ||| acc.getD e.on 0 ||| cloStep acc r else cloStep acc r
def clo : List Oper → List Nat → List Nat
  | [], acc => acc
  | o :: r, acc => clo r (acc ++ [cloStep acc o.after.toList])
theorem cloStep_spec {acc : List Nat} {i : Nat} : ∀ (es : List Edge), Nat.testBit (cloStep acc es) i = true → ∃ e ∈ es, Region.binds .any e = true ∧ (e.on = i ∨ Nat.testBit (acc.getD e.on 0) i = true)
  | [], h => by simp [cloStep] at h
  | e :: r, h => by
    unfold cloStep at h
    cases hb : Region.binds .any e with
    | true =>
      rw [hb, Bool.cond_true, Nat.testBit_or, Nat.testBit_or, Bool.or_eq_true, Bool.or_eq_true] at h
      rcases h with (h | h) | h
      · refine ⟨e, List.mem_cons_self .., hb, .inl ?_⟩
        rw [Nat.testBit_two_pow] at h
        exact of_decide_eq_true h
      · exact ⟨e, List.mem_cons_self .., hb, .inr h⟩
      · obtain ⟨e', he, hr⟩ := cloStep_spec r h
        exact ⟨e', List.mem_cons_of_mem _ he, hr⟩
    | false =>
      rw [hb, Bool.cond_false] at h
      obtain ⟨e', he, hr⟩ := cloStep_spec r h
      exact ⟨e', List.mem_cons_of_mem _ he, hr⟩
theorem WaitsT.of {ops : Array Oper} {i s : Nat} {o : Oper} {e : Edge} (ho : ops[s]? = some o) (he : e ∈ o.after) (hb : Region.binds .any e = true) (h : e.on = i ∨ WaitsT ops i e.on) : WaitsT ops i s := h.elim (.one ho he hb) (.step ho he hb)
theorem clo_spec {ops : Array Oper} {i : Nat} : ∀ (l : List Oper) (acc : List Nat), (∀ (k : Nat) (o : Oper), l[k]? = some o → ops[acc.length + k]? = some o) → (∀ j, Nat.testBit (acc.getD j 0) i = true → WaitsT ops i j) → ∀ j, Nat.testBit ((clo l acc).getD j 0) i = true → WaitsT ops i j
  | [], acc, _, h, j, hj => h j hj
  | o :: r, acc, hl, h, j, hj => by
    refine clo_spec r (acc ++ [cloStep acc o.after.toList]) (fun k o' hk => ?_) (fun j' hj' => ?_) j hj
    · have := hl (k + 1) o' (by simpa using hk)
      rw [List.length_append, List.length_singleton]
      rw [show acc.length + (k + 1) = acc.length + 1 + k by omega] at this
      exact this
    · rcases Nat.lt_trichotomy j' acc.length with c | c | c
      · rw [List.getD_eq_getElem?_getD, List.getElem?_append_left c, ← List.getD_eq_getElem?_getD] at hj'
        exact h j' hj'
      · subst c
        rw [List.getD_eq_getElem?_getD, List.getElem?_append_right (Nat.le_refl _), Nat.sub_self] at hj'
        obtain ⟨e, he, hb, hr⟩ := cloStep_spec _ hj'
        have ho := hl 0 o rfl
        rw [Nat.add_zero] at ho
        exact .of ho (by simpa using he) hb (hr.imp id (h _))
      · rw [List.getD_eq_getElem?_getD, List.getElem?_eq_none (by rw [List.length_append, List.length_singleton]; omega)] at hj'
        simp at hj'

def maskOf : List Nat → Nat
  | [] => 0
  | i :: r => 2 ^ i ||| maskOf r
theorem maskOf_spec {i : Nat} : ∀ {l : List Nat}, i ∈ l → Nat.testBit (maskOf l) i = true
  | j :: r, h => by
    unfold maskOf
    rw [Nat.testBit_or]
    rcases List.mem_cons.1 h with rfl | h'
    · rw [Nat.testBit_two_pow_self, Bool.true_or]
    · rw [maskOf_spec h', Bool.or_true]
def restB (I : List Nat) (m : Nat) : List Nat → Nat → Bool
  | [], _ => true
  | c :: r, j => (I.contains j || Nat.beq (m &&& c) m) && restB I m r (j + 1)
theorem restB_spec {I : List Nat} {m : Nat} : ∀ (l : List Nat) (k : Nat), restB I m l k = true → ∀ (j : Nat) (c : Nat), l[j]? = some c → I.contains (k + j) = true ∨ m &&& c = m
  | [], k, _, j, c, h => by simp at h
  | x :: r, k, h, j, c, hc => by
    unfold restB at h
    simp only [Bool.and_eq_true, Bool.or_eq_true, Nat.beq_eq] at h
    cases j with
    | zero => simp at hc; subst hc; exact h.1
    | succ j =>
      have := restB_spec r (k + 1) h.2 j c (by simpa using hc)
      rwa [show k + 1 + j = k + (j + 1) by omega] at this
def inB (ops : Array Oper) (I : List Nat) (l0 : List (Nat × Value)) (i : Nat) : Bool := match ops[i]? with
  | some o => (o.after.all fun e => !Region.binds .any e || (Nat.blt e.on i && I.contains e.on)) && (match o.dst with | some d => (look l0 d).isNone | none => true)
  | none => false
/-- the first ones: what they wait for is among them, each has a place of its own; all others wait for all of them -/
def stabB (ops : Array Oper) (I : List Nat) (l0 : List (Nat × Value)) : Bool := nodupO ops.toList 0 && (I.all fun i => inB ops I l0 i) && restB I (maskOf I) (clo ops.toList []) 0 && Nat.beq (clo ops.toList []).length ops.size
/-- where an operand's value comes from -/
def srcOf (ops : Array Oper) (l0 L : List (Nat × Value)) (i t : Nat) : Option Value := match ops[i]? with
  | some o => bif (o.after.any fun e => Region.binds .any e && (match ops[e.on]? with | some q => (match q.dst with | some c => Nat.beq c t | none => false) | none => false)) then look L t else look l0 t
  | none => none
def oneL (ops : Array Oper) (L : List (Nat × Value)) (i : Nat) : List (Nat × Value) := match ops[i]? with
  | some o => (match o.dst with | some d => [(d, (look L d).getD undef)] | none => [])
  | none => []

theorem leastN {P : Nat → Prop} : ∀ n, P n → ∃ k, P k ∧ ∀ j, j < k → ¬ P j := fun n => by
  induction n using Nat.strongRecOn with
  | _ n ih =>
    intro h
    by_cases e : ∃ j, j < n ∧ P j
    · obtain ⟨j, hj, hp⟩ := e
      exact ih j hj hp
    · exact ⟨n, h, fun j hj hp => e ⟨j, hj, hp⟩⟩
theorem look_map_some2 {f : Nat → Option Value} {l : List (Nat × Value)} (h : l.map (fun p => f p.1) = l.map (fun p => some p.2)) : ∀ i v, look l i = some v → f i = some v := by
  induction l with
  | nil => intro i v hv; cases hv
  | cons x r ih =>
    intro i v hv
    simp only [List.map_cons, List.cons.injEq] at h
    unfold look at hv
    cases hb : Nat.beq x.1 i with
    | true =>
      rw [hb, Bool.cond_true] at hv
      cases hv
      have := Nat.eq_of_beq_eq_true hb
      rw [← this]
      exact h.1
    | false =>
      rw [hb, Bool.cond_false] at hv
      exact ih h.2 i v hv
section
variable {P : Program} {ops : Array Oper} {Q : Exit → Act → World → Prop} {n : Nat} {S : World → Prop} {l0 L : List (Nat × Value)} {I : List Nat}
def Stab (P : Program) (ops : Array Oper) (Q : Exit → Act → World → Prop) (n : Nat) (S : World → Prop) (l0 L : List (Nat × Value)) (i : Nat) : Prop :=
  ∃ E : List (Nat × Value), E.map (fun p => srcOf ops l0 L i p.1) = E.map (fun p => some p.2) ∧ ∀ a w, Env a n E → S w → wpOp P ops Q i (fun a' w' => Env a' n (oneL ops L i) ∧ S w') a w
structure Know (ops : Array Oper) (n : Nat) (l0 L : List (Nat × Value)) (I : List Nat) (a : Act) (listed : Array Bool) : Prop where
  size : a.tmps.size = n
  defers : a.defers = []
  old : ∀ t v, look l0 t = some v → a.tmps[t]? = some v
  new : ∀ i o d, i ∈ I → ops[i]? = some o → o.dst = some d → listed.getD i false = true → a.tmps[d]? = some ((look L d).getD undef)
theorem wpOp_put {i : Nat} {a : Act} {w : World} {K : Act → World → Prop} {o : Oper} (ho : ops[i]? = some o) (hd : ∀ a' w', K a' w' → a'.defers = []) (h : wpOp P ops Q i K a w) : wpOp P ops Q i (fun a' w' => K a' w' ∧ ∃ v, a' = a.put o.dst v) a w := by
  unfold wpOp at *
  simp only [ho] at h ⊢
  split
  · rename_i hw
    simp only [hw, if_true] at h
    refine h.imp (fun hh => ?_) id
    unfold Oper.wp at *
    generalize (execOp a.eval o).run P w = r at *
    cases r with
    | ok nx w' =>
      cases nx <;> simp only [Oper.upon] at hh ⊢
      all_goals first
        | exact ⟨hh, _, rfl⟩
        | exact Calls.mono hh (fun e w'' he => by cases e <;> first | exact ⟨he, _, rfl⟩ | exact he)
        | exact Rows.mono hh (fun _ _ he => ⟨he, _, rfl⟩)
        | (have := hd _ _ hh; cases hdst : o.dst <;> simp [Act.put, hdst] at this)
        | exact hh
    | halt x w' => cases x <;> simp only [Oper.upon] at hh ⊢ <;> exact hh
  · rename_i hw
    simp only [hw] at h
    exact ⟨h, _, rfl⟩
def cntF (l : Array Bool) : Nat := l.toList.countP fun b => !b
theorem cnt_set {l : List Bool} : ∀ {i : Nat}, l[i]? = some false → (l.set i true).countP (fun b => !b) + 1 = l.countP fun b => !b := by
  induction l with
  | nil => intro i h; simp at h
  | cons x r ih =>
    intro i h
    cases i with
    | zero =>
      simp at h
      subst h
      simp [List.countP_cons]
    | succ i =>
      have := ih (i := i) (by simpa using h)
      simp only [List.set_cons_succ, List.countP_cons]
      omega
theorem cntF_set {l : Array Bool} {i : Nat} (h : l.getD i true = false) : cntF (l.setIfInBounds i true) + 1 = cntF l := by
  have hi : i < l.size := by
    rcases Nat.lt_or_ge i l.size with g | g
    · exact g
    · simp [g] at h
  have e : l.toList[i]? = some false := by
    simp [hi] at h
    simp [hi, h]
  have := cnt_set e
  unfold cntF
  rw [Array.toList_setIfInBounds]
  exact this
/-- just the first ones have run -/
def LI (ops : Array Oper) (I : List Nat) : Array Bool := ((List.range ops.size).map fun j => I.contains j).toArray
def envI (ops : Array Oper) (l0 L : List (Nat × Value)) (i : Nat) : List (Nat × Value) := match ops[i]? with
  | some o => (o.looksAt ops).map fun t => (t, (srcOf ops l0 L i t).getD undef)
  | none => []
theorem stab_go {J : Array Bool → Act → World → Prop} (hB : stabB ops I l0 = true)
    (step : ∀ i ∈ I, ∀ (listed : Array Bool) (a : Act) (w : World) (o : Oper), ops[i]? = some o → listed.size = ops.size → listed.getD i true = false → (∀ e ∈ o.after, Region.binds .any e = true → e.on ∈ I ∧ listed.getD e.on false = true) → (∀ d, o.dst = some d → look l0 d = none) → J listed a w → wpOp P ops Q i (fun a' w' => J (listed.setIfInBounds i true) a' w') a w)
    (next : ∀ a w, J (LI ops I) a w → wpAny P .any ops Q (cntF (LI ops I)) (LI ops I) a w) :
    ∀ (m : Nat) (listed : Array Bool) (a : Act) (w : World), m = cntF listed → listed.size = ops.size → (∀ j, listed.getD j false = true → j ∈ I) → Closed ops listed → J listed a w → wpAny P .any ops Q m listed a w := by
  have hB' := hB
  unfold stabB at hB'
  simp only [Bool.and_eq_true, List.all_eq_true, Nat.beq_eq] at hB'
  obtain ⟨⟨⟨hnd, hin⟩, hrest⟩, hlen⟩ := hB'
  have inS : ∀ i ∈ I, ∃ o, ops[i]? = some o ∧ (∀ e ∈ o.after, Region.binds .any e = true → e.on < i ∧ e.on ∈ I) ∧ ∀ d, o.dst = some d → look l0 d = none := fun i hi => by
    have h := hin i hi
    unfold inB at h
    cases ho : ops[i]? with
    | none => rw [ho] at h; cases h
    | some o =>
      rw [ho] at h
      simp only [Bool.and_eq_true] at h
      refine ⟨o, rfl, fun e he hb => ?_, fun d hd => ?_⟩
      · have h1 := (Array.all_eq_true_iff_forall_mem.1 h.1) e he
        rw [hb] at h1
        simp only [Bool.not_true, Bool.false_or, Bool.and_eq_true, Nat.blt_eq] at h1
        exact ⟨h1.1, List.contains_iff_mem.1 h1.2⟩
      · have h2 := h.2
        rw [hd] at h2
        exact Option.isNone_iff_eq_none.1 h2
  intro m
  induction m with
  | zero =>
    intro listed a w hm hs hsub hcl hk
    have hall : ∀ j, j < ops.size → listed.getD j false = true := fun j hj => by
      cases h : listed.getD j false with
      | true => rfl
      | false =>
        have : listed.getD j true = false := by
          have hj' : j < listed.size := by omega
          simp [hj'] at h ⊢
          exact h
        have := cntF_set this
        omega
    have e : listed = LI ops I := by
      refine Array.ext (by simp [LI, hs]) fun j h1 h2 => ?_
      have h3 := hall j (by omega)
      have h4 := hsub j h3
      simp [h1] at h3
      simp [LI, h3, List.contains_iff_mem, h4]
    subst e
    rw [hm]
    exact next a w hk
  | succ m ih =>
    intro listed a w hm hs hsub hcl hk
    by_cases hall : ∀ i ∈ I, listed.getD i false = true
    · have e : listed = LI ops I := by
        refine Array.ext (by simp [LI, hs]) fun j h1 h2 => ?_
        by_cases hj : j ∈ I
        · have h3 := hall j hj
          simp [h1] at h3
          simp [LI, h3, List.contains_iff_mem, hj]
        · cases h3 : listed.getD j false with
          | true => exact absurd (hsub j h3) hj
          | false =>
            simp [h1] at h3
            simp [LI, h3, List.contains_iff_mem, hj]
      subst e
      rw [hm]
      exact next a w hk
    · have ⟨i0, h0⟩ : ∃ i, i ∈ I ∧ listed.getD i false = false := Classical.byContradiction fun hno => hall fun i hi => by
        cases h : listed.getD i false with
        | true => rfl
        | false => exact absurd ⟨i, hi, h⟩ hno
      obtain ⟨k, ⟨hkI, hku⟩, hmin⟩ := Go.Dbr.leastN (P := fun i => i ∈ I ∧ listed.getD i false = false) i0 h0
      obtain ⟨ok, hok, hafk, _⟩ := inS k hkI
      have hkt : listed.getD k true = false := by
        have : k < listed.size := by rw [hs]; exact (Array.getElem?_eq_some_iff.1 hok).1
        simp [this] at hku ⊢
        exact hku
      have hkr : k ∈ Region.ready .any ops listed := mem_ready.2 ⟨hkt, ok, hok, fun e he hb => by
        obtain ⟨h1, h2⟩ := hafk e he hb
        cases h : listed.getD e.on false with
        | true => rfl
        | false => exact absurd ⟨h2, h⟩ (hmin _ h1)⟩
      refine ⟨fun hr => absurd hkr (by rw [hr]; exact List.not_mem_nil), fun i hi => ?_⟩
      obtain ⟨hiu, o, ho, haf⟩ := mem_ready.1 hi
      have hiI : i ∈ I := Classical.byContradiction fun hno => by
        have hib := (Array.getElem?_eq_some_iff.1 ho).1
        have hc : (clo ops.toList [])[i]? = some ((clo ops.toList []).getD i 0) := by
          rw [List.getD_eq_getElem?_getD, List.getElem?_eq_getElem (by omega)]
          rfl
        rcases restB_spec _ 0 hrest i _ hc with h | h
        · rw [Nat.zero_add] at h
          exact hno (List.contains_iff_mem.1 h)
        · have hb := maskOf_spec hkI
          rw [← h, Nat.testBit_and, Bool.and_eq_true] at hb
          have hw := clo_spec (ops := ops) (i := k) ops.toList [] (fun j o' hj => by simpa using hj) (fun j hj => by simp at hj) i hb.2
          have := hw.no hcl o ho haf
          rw [hku] at this
          cases this
      obtain ⟨o', ho', hafI, hdn⟩ := inS i hiI
      rw [ho] at ho'
      cases ho'
      refine wpOp_mono (fun a' w' h => ?_) (step i hiI listed a w o ho hs hiu (fun e he hb => ⟨(hafI e he hb).2, haf e he hb⟩) hdn hk)
      exact ih (listed.setIfInBounds i true) a' w' (by have := cntF_set hiu; omega) (by simp [hs]) (fun j hj => by
        by_cases e : i = j
        · exact e ▸ hiI
        · refine hsub j ?_
          simp [Array.getElem?_setIfInBounds_ne e] at hj ⊢
          exact hj) (hcl.set hi) h
/-- what one of them knows and leaves -/
theorem stab_step (hnd : nodupO ops.toList 0 = true) {i : Nat} {listed : Array Bool} {a : Act} {w : World} {o : Oper} (hiI : i ∈ I) (hst : Stab P ops Q n S l0 L i) (ho : ops[i]? = some o) (hs : listed.size = ops.size) (hiu : listed.getD i true = false)
    (haf : ∀ e ∈ o.after, Region.binds .any e = true → e.on ∈ I ∧ listed.getD e.on false = true) (hdn : ∀ d, o.dst = some d → look l0 d = none) (hk : Know ops n l0 L I a listed) (hS : S w) :
    wpOp P ops Q i (fun a' w' => Know ops n l0 L I a' (listed.setIfInBounds i true) ∧ S w' ∧ ∃ v, a' = a.put o.dst v) a w := by
  obtain ⟨E, hE, hrun⟩ := hst
  have env : Env a n E := ⟨hk.size, hk.defers, fun t v hv => by
    have h1 := look_map_some2 hE t v hv
    unfold srcOf at h1
    rw [ho] at h1
    simp only at h1
    cases hany : (o.after.any fun e => Region.binds .any e && (match ops[e.on]? with | some q => (match q.dst with | some c => Nat.beq c t | none => false) | none => false)) with
    | true =>
      rw [hany, Bool.cond_true] at h1
      obtain ⟨e, he, hb⟩ := Array.any_eq_true'.1 hany
      simp only [Bool.and_eq_true] at hb
      cases hq : ops[e.on]? with
      | none => rw [hq] at hb; cases hb.2
      | some q =>
        rw [hq] at hb
        cases hc : q.dst with
        | none => simp [hc] at hb
        | some c =>
          simp only [hc, Nat.beq_eq] at hb
          have := hk.new e.on q t (haf e he hb.1).1 hq (by rw [hc, hb.2]) (haf e he hb.1).2
          rw [h1] at this
          exact this
    | false =>
      rw [hany, Bool.cond_false] at h1
      exact hk.old t v h1⟩
  have hrun2 := wpOp_put ho (fun a' w' h => h.1.defers) (hrun a w env hS)
  refine wpOp_mono (fun a' w' h => ?_) hrun2
  obtain ⟨⟨hE', hS'⟩, v', rfl⟩ := h
  have keep : ∀ t, o.dst ≠ some t → (a.put o.dst v').tmps[t]? = a.tmps[t]? := fun t ht => by
    cases hd : o.dst with
    | none => rfl
    | some d =>
      have : d ≠ t := fun e => ht (by rw [hd, e])
      simp [Act.put, Array.getElem?_setIfInBounds_ne this]
  refine ⟨⟨hE'.size, hE'.defers, fun t v hv => ?_, fun i' oi d hi' hoi hd hl => ?_⟩, hS', v', rfl⟩
  · rw [keep t (fun e => by rw [hdn t e] at hv; cases hv)]
    exact hk.old t v hv
  · by_cases e : i = i'
    · subst e
      rw [ho] at hoi
      cases hoi
      refine hE'.slot d _ ?_
      unfold oneL
      rw [ho]
      simp only [hd, look_self]
    · rw [keep d (fun g => e ((nodupO_spec _ _ hnd).2 i i' o oi d (by rw [Array.getElem?_toList]; exact ho) (by rw [Array.getElem?_toList]; exact hoi) g hd))]
      refine hk.new i' oi d hi' hoi hd ?_
      simp [Array.getElem?_setIfInBounds_ne e] at hl ⊢
      exact hl
end

/-! ## in a text -/
section
variable {P : Program} {ops : Array Oper} {Q : Exit → Act → World → Prop} {n : Nat} {l0 L : List (Nat × Value)} {I A : List Nat} {a : Act} {w w0 : World} {L0 Lh : List Ent}
def StabL (P : Program) (ops : Array Oper) (Q : Exit → Act → World → Prop) (n : Nat) (w0 : World) (L0 Lh : List Ent) (l0 L : List (Nat × Value)) : List Nat → Prop
  | [] => True
  | i :: r => (∀ M, Stab P ops Q n (fun wv => Ev w0 L0 wv (Lh ++ M)) l0 L i) ∧ StabL P ops Q n w0 L0 Lh l0 L r
theorem StabL.all : ∀ {I : List Nat}, StabL P ops Q n w0 L0 Lh l0 L I → ∀ i ∈ I, ∀ M, Stab P ops Q n (fun wv => Ev w0 L0 wv (Lh ++ M)) l0 L i
  | _ :: _, h, i, hi => (List.mem_cons.1 hi).elim (fun e => e ▸ h.1) (h.2.all i)
def srcE (ops : Array Oper) (I : List Nat) (l0 L : List (Nat × Value)) (t : Nat) : Option Value := bif I.any fun i => (match opD ops i with | some d => Nat.beq d t | none => false) then look L t else look l0 t
theorem Know.env {listed : Array Bool} {l' : List (Nat × Value)} (k : Know ops n l0 L I a listed) (hl : ∀ i ∈ I, listed.getD i false = true) (h : l'.map (fun p => srcE ops I l0 L p.1) = l'.map (fun p => some p.2)) : Env a n l' := ⟨k.size, k.defers, fun t v hv => by
  have h1 := look_map_some2 h t v hv
  unfold srcE at h1
  cases hany : (I.any fun i => (match opD ops i with | some d => Nat.beq d t | none => false)) with
  | true =>
    rw [hany, Bool.cond_true] at h1
    obtain ⟨i, hi, hb⟩ := List.any_eq_true.1 hany
    unfold opD at hb
    cases ho : ops[i]? with
    | none => rw [ho] at hb; cases hb
    | some o =>
      rw [ho] at hb
      simp only at hb
      cases hd : o.dst with
      | none => rw [hd] at hb; cases hb
      | some d =>
        rw [hd] at hb
        simp only [Nat.beq_eq] at hb
        subst hb
        have := k.new i o d hi ho hd (hl i hi)
        rw [h1] at this
        exact this
  | false =>
    rw [hany, Bool.cond_false] at h1
    exact k.old t v h1⟩
theorem put_keep {o : Oper} {v : Value} {t : Nat} (ht : o.dst ≠ some t) : (a.put o.dst v).tmps[t]? = a.tmps[t]? := by
  cases hd : o.dst with
  | none => rfl
  | some d =>
    have : d ≠ t := fun e => ht (by rw [hd, e])
    simp [Act.put, Array.getElem?_setIfInBounds_ne this]
theorem Know.put {listed : Array Bool} {i : Nat} {o : Oper} {v : Value} (hnd : nodupO ops.toList 0 = true) (hk : Know ops n l0 L I a listed) (ho : ops[i]? = some o) (hiI : i ∉ I) (hdn : ∀ d, o.dst = some d → look l0 d = none) : Know ops n l0 L I (a.put o.dst v) (listed.setIfInBounds i true) := by
  refine ⟨?_, ?_, fun t v hv => ?_, fun i' oi d hi' hoi hd hl => ?_⟩
  · cases o.dst with
    | none => exact hk.size
    | some d => simp [Act.put, hk.size]
  · cases o.dst with
    | none => exact hk.defers
    | some d => exact hk.defers
  · rw [put_keep (fun e => by rw [hdn t e] at hv; cases hv)]
    exact hk.old t v hv
  · have e : i ≠ i' := fun e => hiI (e ▸ hi')
    rw [put_keep (fun g => e ((nodupO_spec _ _ hnd).2 i i' o oi d (by rw [Array.getElem?_toList]; exact ho) (by rw [Array.getElem?_toList]; exact hoi) g hd))]
    refine hk.new i' oi d hi' hoi hd ?_
    simp [Array.getElem?_setIfInBounds_ne e] at hl ⊢
    exact hl
/-- new variables, in whatever order -/
def Alc (ops : Array Oper) (A : List Nat) (cA : Nat → List Value) (tA : Nat → TypeId) (w0 : World) (L0 Lh : List Ent) (listed : Array Bool) (a : Act) (w : World) : Prop :=
  ∃ bs : List (Nat × Nat), (bs.map Prod.fst).Nodup ∧ (∀ i, i ∈ bs.map Prod.fst ↔ i ∈ A ∧ listed.getD i false = true) ∧ (∀ p ∈ bs, ∀ o d, ops[p.1]? = some o → o.dst = some d → a.tmps[d]? = some (.pointer (some ⟨p.2, 0, none⟩))) ∧ Ev w0 L0 w (Lh ++ bs.map fun p => .box p.2 (cA p.1) (tA p.1))
def alcB (ops : Array Oper) (I A : List Nat) : Bool := (I.all fun i => match ops[i]? with
    | some o => o.after.all fun e => !Region.binds .any e || I.contains e.on
    | none => false) && (A.all fun i => !I.contains i && (match opD ops i with | some _ => true | none => false)) && nodupB A
def dN (ops : Array Oper) (i : Nat) : Nat := (opD ops i).getD 0
theorem Alc.put {cA : Nat → List Value} {tA : Nat → TypeId} {listed : Array Bool} {i : Nat} {o : Oper} {v : Value} {w' : World} {bs : List (Nat × Nat)} (hnd : nodupO ops.toList 0 = true) (ho : ops[i]? = some o) (hiA : i ∉ A)
    (h1 : (bs.map Prod.fst).Nodup) (h2 : ∀ i, i ∈ bs.map Prod.fst ↔ i ∈ A ∧ listed.getD i false = true) (h3 : ∀ p ∈ bs, ∀ o d, ops[p.1]? = some o → o.dst = some d → a.tmps[d]? = some (.pointer (some ⟨p.2, 0, none⟩))) (h4 : Ev w0 L0 w' (Lh ++ bs.map fun p => .box p.2 (cA p.1) (tA p.1))) :
    Alc ops A cA tA w0 L0 Lh (listed.setIfInBounds i true) (a.put o.dst v) w' := by
  refine ⟨bs, h1, fun j => ?_, fun p hp o' d ho' hd => ?_, h4⟩
  · rw [h2 j]
    by_cases e : i = j
    · subst e
      exact ⟨fun h => absurd h.1 hiA, fun h => absurd h.1 hiA⟩
    · simp [Array.getElem?_setIfInBounds_ne e]
  · have hpA := ((h2 p.1).1 (List.mem_map_of_mem hp)).1
    have e : i ≠ p.1 := fun e => hiA (e ▸ hpA)
    rw [put_keep (fun g => e ((nodupO_spec _ _ hnd).2 i p.1 o o' d (by rw [Array.getElem?_toList]; exact ho) (by rw [Array.getElem?_toList]; exact ho') g hd))]
    exact h3 p hp o' d ho' hd
/-- a new variable more -/
theorem Alc.step {cA : Nat → List Value} {tA : Nat → TypeId} {listed : Array Bool} {i : Nat} {o : Oper} (hnd : nodupO ops.toList 0 = true) (ho : ops[i]? = some o) (hiA : i ∈ A) (hiI : i ∉ I) (hs : listed.size = ops.size) (hiu : listed.getD i true = false)
    (hdn : ∀ d, o.dst = some d → look l0 d = none) (hk : Know ops n l0 L I a listed) (hA : Alc ops A cA tA w0 L0 Lh listed a w)
    (hop : opAt ops n i [] = some (.run (opD ops i) (nv (Instr.alloc (tA i) true (.tuple #[]))))) (hz : (fun w => (zeroValue (tA i)).run P w) = fun w => .ok (zeroV P (tA i)) w) (hc : (zeroV P (tA i)).cells.toList = cA i) (hsome : ∃ d, opD ops i = some d) :
    wpOp P ops Q i (fun a' w' => Know ops n l0 L I a' (listed.setIfInBounds i true) ∧ Alc ops A cA tA w0 L0 Lh (listed.setIfInBounds i true) a' w') a w := by
  obtain ⟨bs, h1, h2, h3, h4⟩ := hA
  have hil : i < listed.size := by rw [hs]; exact (Array.getElem?_eq_some_iff.1 ho).1
  have hif : listed.getD i false = false := by
    simp [hil] at hiu ⊢
    exact hiu
  have E0 : Env a n [] := ⟨hk.size, hk.defers, fun t v hv => by cases hv⟩
  have hrun : wpOp P ops Q i (fun a' w' => ∃ b, Env a' n (putl (opD ops i) (.pointer (some ⟨b, 0, none⟩)) []) ∧ Ev w0 L0 w' ((Lh ++ bs.map fun p => .box p.2 (cA p.1) (tA p.1)) ++ [.box b (cA i) (tA i)])) a w :=
    m_z (tA i) (cA i) E0 h4 (fun a' w' b E' H' => ⟨b, E', H'⟩) hop hz hc
  refine wpOp_mono (fun a' w' h => ?_) (wpOp_put ho (fun a' w' h => by obtain ⟨b, E', _⟩ := h; exact E'.defers) hrun)
  obtain ⟨⟨b, E', H'⟩, v, rfl⟩ := h
  obtain ⟨d, hd⟩ := hsome
  have hod : o.dst = some d := by
    unfold opD at hd
    rw [ho] at hd
    exact hd
  refine ⟨hk.put hnd ho hiI hdn, bs ++ [(i, b)], ?_, fun j => ?_, fun p hp o' d' ho' hd' => ?_, ?_⟩
  · rw [List.map_append, List.nodup_append]
    refine ⟨h1, by simp, fun x hx y hy e => ?_⟩
    simp at hy
    have := ((h2 x).1 hx).2
    rw [e, hy, hif] at this
    cases this
  · rw [List.map_append, List.mem_append, h2 j]
    by_cases e : i = j
    · subst e
      simp [hil, hiA]
    · have e' : j ≠ i := fun g => e g.symm
      simp [Array.getElem?_setIfInBounds_ne e, e']
  · rcases List.mem_append.1 hp with hp | hp
    · have hpl := ((h2 p.1).1 (List.mem_map_of_mem hp)).2
      have e : i ≠ p.1 := fun e => by rw [← e, hif] at hpl; cases hpl
      rw [put_keep (fun g => e ((nodupO_spec _ _ hnd).2 i p.1 o o' d' (by rw [Array.getElem?_toList]; exact ho) (by rw [Array.getElem?_toList]; exact ho') g hd'))]
      exact h3 p hp o' d' ho' hd'
    · simp at hp
      subst hp
      rw [ho] at ho'
      cases ho'
      rw [hod] at hd'
      cases hd'
      refine E'.slot d _ ?_
      rw [hd]
      exact look_self _ _ _
  · rw [List.map_append, ← List.append_assoc]
    exact H'
def blkOf (bs : List (Nat × Nat)) (i : Nat) : Nat := ((bs.find? fun p => p.1 == i).map Prod.snd).getD 0
theorem look_alc {ops : Array Oper} {B : Nat → Nat} {l' : List (Nat × Value)} {t : Nat} {v : Value} : ∀ (A : List Nat), look ((A.map fun i => (dN ops i, Value.pointer (some ⟨B i, 0, none⟩))) ++ l') t = some v → (∃ i ∈ A, dN ops i = t ∧ v = .pointer (some ⟨B i, 0, none⟩)) ∨ look l' t = some v
  | [], h => .inr h
  | i :: r, h => by
    rw [List.map_cons, List.cons_append] at h
    by_cases e : dN ops i = t
    · left
      refine ⟨i, List.mem_cons_self .., e, ?_⟩
      subst e
      rw [look_self] at h
      cases h
      rfl
    · rw [look_other _ _ e] at h
      rcases look_alc r h with ⟨j, hj, h1⟩ | h1
      · exact .inl ⟨j, List.mem_cons_of_mem _ hj, h1⟩
      · exact .inr h1
end
section
variable {P : Program} {ops : Array Oper} {Q : Exit → Act → World → Prop} {n : Nat} {l0 L : List (Nat × Value)} {I A : List Nat} {a : Act} {w w0 : World} {L0 Lh : List Ent}
/-- in the order of the text -/
theorem Alc.order {cA : Nat → List Value} {tA : Nat → TypeId} {listed : Array Bool} (hA : Alc ops A cA tA w0 L0 Lh listed a w) (hnA : A.Nodup) (hl : ∀ i ∈ A, listed.getD i false = true) (hd : ∀ i ∈ A, ∃ o d, ops[i]? = some o ∧ o.dst = some d) :
    ∃ B : Nat → Nat, (∀ i ∈ A, a.tmps[dN ops i]? = some (.pointer (some ⟨B i, 0, none⟩))) ∧ Ev w0 L0 w (Lh ++ A.map fun i => .box (B i) (cA i) (tA i)) := by
  obtain ⟨bs, h1, h2, h3, h4⟩ := hA
  have hB : ∀ i ∈ A, ∃ k, ∃ p : Nat × Nat, bs[k]? = some p ∧ p.1 = i ∧ blkOf bs i = p.2 := fun i hi => by
    have hm := (h2 i).2 ⟨hi, hl i hi⟩
    obtain ⟨p0, hp0, e0⟩ := List.mem_map.1 hm
    have hf : ∃ p, bs.find? (fun p => p.1 == i) = some p := by
      cases h : bs.find? (fun p => p.1 == i) with
      | some p => exact ⟨p, rfl⟩
      | none => exact absurd (List.find?_eq_none.1 h p0 hp0) (by simp [e0])
    obtain ⟨p, hp⟩ := hf
    have hpm := List.mem_of_find?_eq_some hp
    have hpe := List.find?_some hp
    obtain ⟨k, hk⟩ := List.getElem?_of_mem hpm
    refine ⟨k, p, hk, by simpa using hpe, ?_⟩
    unfold blkOf
    rw [hp]
    rfl
  refine ⟨blkOf bs, fun i hi => ?_, ?_⟩
  · obtain ⟨k, p, hk, hp, hb⟩ := hB i hi
    obtain ⟨o, d, ho, hdd⟩ := hd i hi
    rw [hb]
    refine h3 p (List.mem_of_getElem? hk) o (dN ops i) (by rw [hp]; exact ho) ?_
    unfold dN opD
    rw [ho]
    simp [hdd]
  · have ix : ∀ (A' : List Nat), (∀ i ∈ A', i ∈ A) → A'.Nodup → ∃ ks : List Nat, (∀ k ∈ ks, ∃ p : Nat × Nat, bs[k]? = some p ∧ p.1 ∈ A') ∧ ks.Nodup ∧ (A'.map fun i => some (Ent.box (blkOf bs i) (cA i) (tA i))) = ks.map fun k => (bs.map fun p => Ent.box p.2 (cA p.1) (tA p.1))[k]? := fun A' => by
      induction A' with
      | nil => exact fun _ _ => ⟨[], by simp, List.nodup_nil, rfl⟩
      | cons i r ih =>
        intro hs hn
        obtain ⟨ks, h5, h6, h7⟩ := ih (fun j hj => hs j (List.mem_cons_of_mem _ hj)) (List.nodup_cons.1 hn).2
        obtain ⟨k, p, hk, hp, hb⟩ := hB i (hs i (List.mem_cons_self ..))
        refine ⟨k :: ks, fun j hj => ?_, List.nodup_cons.2 ⟨fun hm => ?_, h6⟩, ?_⟩
        · rcases List.mem_cons.1 hj with rfl | hj
          · exact ⟨p, hk, by rw [hp]; exact List.mem_cons_self ..⟩
          · obtain ⟨q, hq, hq2⟩ := h5 j hj
            exact ⟨q, hq, List.mem_cons_of_mem _ hq2⟩
        · obtain ⟨q, hq, hq2⟩ := h5 k hm
          rw [hk] at hq
          cases hq
          rw [hp] at hq2
          exact (List.nodup_cons.1 hn).1 hq2
        · rw [List.map_cons, List.map_cons, h7, List.getElem?_map, hk]
          simp [hp, hb]
    obtain ⟨ks, h5, h6, h7⟩ := ix A (fun _ h => h) hnA
    refine h4.pick ((List.range Lh.length) ++ ks.map (Lh.length + ·)) ?_ ?_
    · rw [List.map_append, List.map_append, List.map_map]
      congr 1
      · refine List.ext_getElem? fun j => ?_
        rcases Nat.lt_or_ge j Lh.length with h | h
        · simp [h, List.getElem?_append_left]
        · simp [h]
      · rw [List.map_map]
        refine Eq.trans (by rfl) (h7.trans ?_)
        refine List.map_congr_left fun k hk => ?_
        show _ = (Lh ++ bs.map fun p => Ent.box p.2 (cA p.1) (tA p.1))[Lh.length + k]?
        rw [List.getElem?_append_right (Nat.le_add_right _ _), Nat.add_sub_cancel_left]
    · rw [List.nodup_append]
      refine ⟨List.nodup_range, ?_, fun x hx y hy e => ?_⟩
      · exact List.Pairwise.map _ (fun x y h g => h (by simpa using g)) h6
      · obtain ⟨k, _, rfl⟩ := List.mem_map.1 hy
        have := List.mem_range.1 hx
        omega
def alcOk (P : Program) (ops : Array Oper) (n : Nat) (cA : Nat → List Value) (tA : Nat → TypeId) (i : Nat) : Prop :=
  opAt ops n i [] = some (.run (opD ops i) (nv (Instr.alloc (tA i) true (.tuple #[])))) ∧ ((fun w => (zeroValue (tA i)).run P w) = fun w => .ok (zeroV P (tA i)) w) ∧ (zeroV P (tA i)).cells.toList = cA i
/-- a drawn region: what is stable and what makes variables first, whatever the order -/
theorem s_gen {F : Act → World → Prop} {id : Nat} (cA : Nat → List Value) (tA : Nat → TypeId) (m' : Nat) (l' : List (Nat × Value)) (E : Env a n l0) (H : Ev w0 L0 w.drew Lh) (hst : StabL P ops (HQ F) n w0 L0 Lh l0 L I) (hal : ∀ i ∈ A, alcOk P ops n cA tA i)
    (next : ∀ a' w' (B : Nat → Nat), Env a' n ((A.map fun i => (dN ops i, Value.pointer (some ⟨B i, 0, none⟩))) ++ l') → Ev w0 L0 w' (Lh ++ A.map fun i => .box (B i) (cA i) (tA i)) → wpAny P .any ops (HQ F) m' (LI ops (I ++ A)) a' w')
    (hp : P.follows .mixedOrders = true) (hB : stabB ops (I ++ A) l0 = true) (hC : alcB ops I A = true) (hl : l'.map (fun p => srcE ops I l0 L p.1) = l'.map (fun p => some p.2)) (hm : cntF (LI ops (I ++ A)) = m') : (Code.region id ops true).wp P (HQ F) a w := by
  have hB' := hB
  unfold stabB at hB'
  simp only [Bool.and_eq_true, List.all_eq_true] at hB'
  have hnd := hB'.1.1.1
  have key : ∀ i ∈ I ++ A, ∃ o, ops[i]? = some o := fun i hi => by
    have h := hB'.1.1.2 i hi
    unfold inB at h
    cases ho : ops[i]? with
    | none => rw [ho] at h; cases h
    | some o => exact ⟨o, rfl⟩
  unfold alcB at hC
  simp only [Bool.and_eq_true, List.all_eq_true] at hC
  have hIA : ∀ i ∈ A, i ∉ I := fun i hi h => by
    have := (hC.1.2 i hi).1
    rw [List.contains_iff_mem.2 h] at this
    cases this
  have hAd : ∀ i ∈ A, ∃ o d, ops[i]? = some o ∧ o.dst = some d := fun i hi => by
    obtain ⟨o, ho⟩ := key i (List.mem_append_right _ hi)
    have h := (hC.1.2 i hi).2
    unfold opD at h
    rw [ho] at h
    cases hd : o.dst with
    | none => simp [hd] at h
    | some d => exact ⟨o, d, ho, hd⟩
  have hlist : ∀ i ∈ I ++ A, (LI ops (I ++ A)).getD i false = true := fun i hi => by
    obtain ⟨o, ho⟩ := key i hi
    have hib := (Array.getElem?_eq_some_iff.1 ho).1
    simp only [List.mem_append] at hi
    simp [LI, hib, hi]
  refine draw_any hp ops.size rfl ?_
  refine stab_go (J := fun listed a w => Know ops n l0 L I a listed ∧ Alc ops A cA tA w0 L0 Lh listed a w) hB (fun i hi listed a w o ho hs hiu haf hdn hJ => ?_) (fun a' w' hJ => ?_) ops.size (Array.replicate ops.size false) a w.drew (by simp [cntF, List.countP_replicate]) (by simp) (fun j hj => ?_) ?_ ⟨⟨E.size, E.defers, E.slot, fun i o d hi ho hd hl => ?_⟩, [], List.nodup_nil, fun i => ?_, (fun p hp => by cases hp), (by rw [List.map_nil, List.append_nil]; exact H)⟩
  · obtain ⟨hk, hA⟩ := hJ
    rcases List.mem_append.1 hi with hi | hi
    · obtain ⟨bs, h1, h2, h3, h4⟩ := hA
      have haf' : ∀ e ∈ o.after, Region.binds .any e = true → e.on ∈ I ∧ listed.getD e.on false = true := fun e he hb => by
        have h := hC.1.1 i hi
        rw [ho] at h
        have h1 := (Array.all_eq_true_iff_forall_mem.1 h) e he
        rw [hb] at h1
        exact ⟨List.contains_iff_mem.1 (by simpa using h1), (haf e he hb).2⟩
      refine wpOp_mono (fun a' w' h => ?_) (stab_step hnd hi (hst.all i hi (bs.map fun p => .box p.2 (cA p.1) (tA p.1))) ho hs hiu haf' hdn hk h4)
      obtain ⟨hk', hS', v, rfl⟩ := h
      exact ⟨hk', Alc.put hnd ho (fun h => hIA i h hi) h1 h2 h3 hS'⟩
    · obtain ⟨h1, h2, h3⟩ := hal i hi
      obtain ⟨o', d, ho', hd⟩ := hAd i hi
      exact Alc.step hnd ho hi (hIA i hi) hs hiu hdn hk hA h1 h2 h3 ⟨d, by unfold opD; rw [ho']; exact hd⟩
  · obtain ⟨hk, hA⟩ := hJ
    obtain ⟨B, hB1, hB2⟩ := Alc.order hA (nodup_of hC.2) (fun i hi => hlist i (List.mem_append_right _ hi)) hAd
    rw [hm]
    have E' := hk.env (fun i hi => hlist i (List.mem_append_left _ hi)) hl
    refine next a' w' B ⟨E'.size, E'.defers, fun t v hv => ?_⟩ hB2
    rcases look_alc A hv with ⟨i, hi, rfl, rfl⟩ | h
    · exact hB1 i hi
    · exact E'.slot t v h
  · rcases Nat.lt_or_ge j ops.size with h | h
    · simp [h] at hj
    · simp [h] at hj
  · intro j o hj hl
    rcases Nat.lt_or_ge j ops.size with h | h
    · simp [h] at hl
    · simp [h] at hl
  · rcases Nat.lt_or_ge i ops.size with h | h
    · simp [h] at hl
    · simp [h] at hl
  · rcases Nat.lt_or_ge i ops.size with h | h
    · simp [h]
    · simp [h]
/-- cells of a variable that an operation makes -/
def cAl (P : Program) (ops : Array Oper) (i : Nat) : List Value := (zeroV P (opTy ops i)).cells.toList
theorem s_g0 {F : Act → World → Prop} {id : Nat} (l0 : List (Nat × Value)) (I : List Nat) (L : List (Nat × Value)) (m' : Nat) (l' : List (Nat × Value)) (E : Env a n l0) (H : Ev w0 L0 w.drew Lh) (hst : StabL P ops (HQ F) n w0 L0 Lh l0 L I)
    (next : ∀ a' w', Env a' n (l') → Ev w0 L0 w' Lh → wpAny P .any ops (HQ F) m' (LI ops (I ++ [])) a' w')
    (hp : P.follows .mixedOrders = true := by kernel_rfl) (hB : stabB ops (I ++ []) l0 = true := by kernel_rfl) (hC : alcB ops I [] = true := by kernel_rfl) (hl : l'.map (fun p => srcE ops I l0 L p.1) = l'.map (fun p => some p.2) := by kernel_rfl) (hm : cntF (LI ops (I ++ [])) = m' := by kernel_rfl) : (Code.region id ops true).wp P (HQ F) a w := by
  exact s_gen (A := []) (cAl P ops) (opTy ops) m' l' E H hst (fun i hi => by cases hi) (fun a' w' B E' H' => next a' w' E' (by rw [List.map_nil, List.append_nil] at H'; exact H')) hp hB hC hl hm
theorem s_n : StabL P ops Q n w0 L0 Lh l0 L [] := trivial
/-- an operation, whatever it is -/
theorem s_c {i : Nat} {r : List Nat} (h : ∀ M a w, Env a n (envI ops l0 L i) → Ev w0 L0 w (Lh ++ M) → wpOp P ops Q i (fun a' w' => Env a' n (oneL ops L i) ∧ Ev w0 L0 w' (Lh ++ M)) a w) (hr : StabL P ops Q n w0 L0 Lh l0 L r)
    (hE : (envI ops l0 L i).map (fun p => srcOf ops l0 L i p.1) = (envI ops l0 L i).map (fun p => some p.2) := by kernel_rfl) : StabL P ops Q n w0 L0 Lh l0 L (i :: r) := ⟨fun M => ⟨_, hE, h M⟩, hr⟩
/-- an operation without memory -/
theorem s_p {i : Nat} {r : List Nat} (fs : List (Nat × FV)) (hr : StabL P ops Q n w0 L0 Lh l0 L r)
    (h : (fun w => resA P ops n w (envI ops l0 L i) i) = (fun w => expA P ops n fs w (envI ops l0 L i) i) := by kernel_rfl)
    (h1 : (oneL ops L i).map (fun p => look (nextL P ops n fs (envI ops l0 L i) i) p.1) = (oneL ops L i).map (fun p => some p.2) := by kernel_rfl)
    (hE : (envI ops l0 L i).map (fun p => srcOf ops l0 L i p.1) = (envI ops l0 L i).map (fun p => some p.2) := by kernel_rfl) : StabL P ops Q n w0 L0 Lh l0 L (i :: r) :=
  s_c (fun M a w E H => by
    have h2 := congrFun h w
    unfold resA expA at h2
    have go : ∀ a', Env a' n (nextL P ops n fs (envI ops l0 L i) i) → Env a' n (oneL ops L i) ∧ Ev w0 L0 w (Lh ++ M) := fun a' E' => ⟨E'.sub h1, H⟩
    unfold nextL at go
    cases ho : opAt ops n i (envI ops l0 L i) with
    | none => simp [ho] at h2
    | some x =>
      cases x with
      | run d s =>
        simp only [ho, Option.some.injEq] at h2 go
        rw [raw_fin] at h2
        exact any_run E ho h2 go
      | skip d =>
        simp only [ho] at go
        obtain ⟨o, hq, hw, rfl, hf⟩ := opAt_skip E ho
        simp only [wpOp, hq, hw, Bool.false_eq_true, if_false]
        exact go _ (E.put undef hf)) hr hE
/-- what is left of it -/
theorem s_e {i : Nat} {l : List (Nat × Value)} {a' : Act} {w' : World} {Lh : List Ent} (E : Env a' n l) (H : Ev w0 L0 w' Lh) (h1 : (oneL ops L i).map (fun p => look l p.1) = (oneL ops L i).map (fun p => some p.2) := by kernel_rfl) : Env a' n (oneL ops L i) ∧ Ev w0 L0 w' Lh := ⟨E.sub h1, H⟩
end
end Go.Dbr

/- Structs of a Boolean and two arrays of words, compared. -/


namespace Go.Dbr
open Go Go.RowKit
set_option linter.unusedSimpArgs false
set_option linter.unusedVariables false
section
variable {P : Program} {w : World}
theorem eqF_cons {d : Nat} {f : Field} {fs : List Field} {xs ys : Array Value} {a b : Value} {r r' : Bool} (hn : (f.name == "_") = false) (pa : (part f.type xs f.offset).run P w = .ok a w) (pb : (part f.type ys f.offset).run P w = .ok b w)
    (he : (Op.equalIn d f.type a b).run P w = .ok r w) (hr : (Op.eqFields d xs ys fs).run P w = .ok r' w) : (Op.eqFields d xs ys (f :: fs)).run P w = .ok (r && r') w := by
  have hne : f.name ≠ "_" := by simpa using hn
  unfold Op.eqFields
  rw [if_pos hne]
  simp only [Sem.run_bind, pa, pb, he, Result.andThen_ok]
  cases r with
  | true => simpa using hr
  | false => simp
theorem part_seg {t : TypeId} {cs xs : List Value} {off m : Nat} (ha : (fun w => (isAgg t).run P w) = fun w => .ok true w) (hs : (fun w => (sizeOf t).run P w) = fun w => .ok m w) (hx : (cs.drop off).take m = xs) : (part t cs.toArray off).run P w = .ok (.agg xs.toArray) w := by
  unfold part
  simp only [Sem.run_bind, congrFun ha w, Result.andThen_ok, if_true, congrFun hs w, Sem.run_pure, List.extract_toArray]
  rw [← hx, List.extract_eq_take_drop, Nat.add_sub_cancel_left]
theorem part_one {t : TypeId} {cs : List Value} {off : Nat} {v : Value} (ha : (fun w => (isAgg t).run P w) = fun w => .ok false w) (hx : cs[off]? = some v) : (part t cs.toArray off).run P w = .ok v w := by
  unfold part
  have h2 : cs.toArray[off]? = some v := by simpa using hx
  simp only [Sem.run_bind, congrFun ha w, Result.andThen_ok, Bool.false_eq_true, if_false, h2, Sem.run_pure]
def fl (P : Program) (t : TypeId) (i : Nat) : Field := ((P.fieldsOf t).toList)[i]?.getD default
def pnt (z : Bool) (x y : List UInt64) : List Value := .bool z :: (u64s x ++ u64s y)
theorem equal_u64 {t e : TypeId} {m dd : Nat} (hu : P.underlying t = some (.array m e)) (he : P.underlying e = some (.int .u64)) (ha : (fun w => (isAgg e).run P w) = fun w => .ok false w) (hc : P.cellsOf e = 1) {x y : List UInt64} (hx : x.length = m) (hy : y.length = m) :
    (Op.equalIn (dd + 1 + 1) t (.agg (u64s x).toArray) (.agg (u64s y).toArray)).run P w = .ok (x == y) w := by
  obtain ⟨ti, hi⟩ : ∃ ti, P.info? e = some ti := by
    cases hi : P.info? e with
    | none => simp [Program.cellsOf, hi] at hc
    | some ti => exact ⟨ti, rfl⟩
  rw [u64s_ints, u64s_ints, run_equalIn_array _ _ _ _ hu hi, hc, run_eqItems_int he ha dd _ _ _ (fun j hj => by have := List.mem_range.1 hj; simp; omega), all_get (by simpa using hx) (by simpa using hy), u64s_inj]
/-- what is to be known of such a type -/
structure IsPnt (P : Program) (t e : TypeId) : Prop where
  un : P.underlying t = some (.struct (P.fieldsOf t))
  held : P.stoodInHeld t = false
  fs : (P.fieldsOf t).toList = [fl P t 0, fl P t 1, fl P t 2]
  n : [(fl P t 0).name == "_", (fl P t 1).name == "_", (fl P t 2).name == "_"] = [false, false, false]
  o : [(fl P t 0).offset, (fl P t 1).offset, (fl P t 2).offset] = [0, 1, 5]
  b : P.underlying (fl P t 0).type = some .bool
  x : P.underlying (fl P t 1).type = some (.array 4 e)
  y : P.underlying (fl P t 2).type = some (.array 4 e)
  eu : P.underlying e = some (.int .u64)
  c : P.cellsOf e = 1
  ae : (fun w => (isAgg e).run P w) = fun w => .ok false w
  ab : (fun w => (isAgg (fl P t 0).type).run P w) = fun w => .ok false w
  ax : (fun w => (isAgg (fl P t 1).type).run P w) = fun w => .ok true w
  ay : (fun w => (isAgg (fl P t 2).type).run P w) = fun w => .ok true w
  sx : (fun w => (sizeOf (fl P t 1).type).run P w) = fun w => .ok 4 w
  sy : (fun w => (sizeOf (fl P t 2).type).run P w) = fun w => .ok 4 w
  g : P.eqGuardType P.depth t = false
theorem IsPnt.eq {t e : TypeId} (h : IsPnt P t e) {z z' : Bool} {x y x' y' : List UInt64} (hx : x.length = 4) (hy : y.length = 4) (hx' : x'.length = 4) (hy' : y'.length = 4) (d : Nat) :
    (Op.equalIn (d + 1 + 1 + 1) t (.agg (pnt z x y).toArray) (.agg (pnt z' x' y').toArray)).run P w = .ok ((z == z') && ((x == x') && (y == y'))) w := by
  have ho := h.o
  have hn := h.n
  simp only [List.cons.injEq, and_true] at ho hn
  obtain ⟨o0, o1, o2⟩ := ho
  obtain ⟨n0, n1, n2⟩ := hn
  rw [run_equalIn_struct w _ t _ _ h.un h.held, h.fs]
  have lx := u64s_length x
  have lx' := u64s_length x'
  have ly := u64s_length y
  have ly' := u64s_length y'
  rw [hx] at lx
  rw [hx'] at lx'
  rw [hy] at ly
  rw [hy'] at ly'
  refine eqF_cons n0 (a := .bool z) (b := .bool z') (r := z == z') (by rw [o0]; exact part_one h.ab rfl) (by rw [o0]; exact part_one h.ab rfl) (run_equalIn_bool' w _ _ _ _ h.b) ?_
  refine eqF_cons n1 (a := .agg (u64s x).toArray) (b := .agg (u64s x').toArray) (r := x == x') (by rw [o1]; exact part_seg h.ax h.sx (by simp only [pnt, List.drop_succ_cons, List.drop_zero]; rw [← lx, List.take_left])) (by rw [o1]; exact part_seg h.ax h.sx (by simp only [pnt, List.drop_succ_cons, List.drop_zero]; rw [← lx', List.take_left])) (equal_u64 h.x h.eu h.ae h.c hx hx') ?_
  have hr : (Op.eqFields (d + 1 + 1) (pnt z x y).toArray (pnt z' x' y').toArray [fl P t 2]).run P w = .ok ((y == y') && true) w := by
    refine eqF_cons n2 (a := .agg (u64s y).toArray) (b := .agg (u64s y').toArray) (r := y == y') ?_ ?_ (equal_u64 h.y h.eu h.ae h.c hy hy') (by unfold Op.eqFields; rfl)
    · rw [o2]
      refine part_seg h.ay h.sy ?_
      simp only [pnt, List.drop_succ_cons]
      rw [← lx, List.drop_left, List.take_of_length_le (by omega)]
    · rw [o2]
      refine part_seg h.ay h.sy ?_
      simp only [pnt, List.drop_succ_cons]
      rw [← lx', List.drop_left, List.take_of_length_le (by omega)]
  rw [Bool.and_true] at hr
  exact hr
end
end Go.Dbr

/- Structs that are built of parts whose cells are told. -/


namespace Go.Dbr
open Go Go.RowKit
set_option linter.unusedSimpArgs false
set_option linter.unusedVariables false
/-- a field: how many cells, its noughts, what it is filled with -/
structure FB where
  m : Nat
  z : List Value
  x : Option (Nat × Value × List Value)
end Go.Dbr

/- What is handed in to a law, opened: numbers, lists of numbers, texts. (Printed by a program.) -/




namespace Go.Dbr
open Go Go.RowKit Go.ChangeShapes Go.WideShapes Go.ChangeAt
open Go.ChangeMaps (open_string)

variable {H : Type} {enc : TypeId × Value → H} {P : Program} {W : World}

theorem Ev.below {w w' : World} (h : Ev w [] w' []) : Below w.heap.size w w' :=
  ⟨h.chg.os, h.chg.tape, h.chg.output, h.chg.size, fun k hk => h.chg.block k hk Owns.nil⟩

theorem ro_nil {w : World} {a : Option Addr} {xs : List Value} (h : Reads w a xs) : Ro w [] a xs := ⟨h, fun _ _ _ => Owns.nil⟩

theorem lift_u8 {n : Int} (h : (Lit.int .u8 n).wf = true) : ∃ x : UInt8, n = ((UInt8.toNat x : Nat) : Int) := by
  simp [Lit.wf, IntKind.min, IntKind.max, IntKind.signed, IntKind.bits] at h
  refine ⟨UInt8.ofNat n.toNat, ?_⟩
  rw [UInt8.toNat_ofNat']
  omega

theorem lift_u16 {n : Int} (h : (Lit.int .u16 n).wf = true) : ∃ x : UInt16, n = ((UInt16.toNat x : Nat) : Int) := by
  simp [Lit.wf, IntKind.min, IntKind.max, IntKind.signed, IntKind.bits] at h
  refine ⟨UInt16.ofNat n.toNat, ?_⟩
  rw [UInt16.toNat_ofNat']
  omega

theorem lift_u32 {n : Int} (h : (Lit.int .u32 n).wf = true) : ∃ x : UInt32, n = ((UInt32.toNat x : Nat) : Int) := by
  simp [Lit.wf, IntKind.min, IntKind.max, IntKind.signed, IntKind.bits] at h
  refine ⟨UInt32.ofNat n.toNat, ?_⟩
  rw [UInt32.toNat_ofNat']
  omega

end Go.Dbr
