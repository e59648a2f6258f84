/- Steps that work out by themselves what they can: over any program. -/
import Derived.Test.YtfcfgbejpcmmkaaDoorKeep
namespace Go.Dbr
open Go Go.RowKit

/-! ## values that are told in another form -/
structure FV where
  raw : Value
  fin : Value
  eq : raw = fin
def g_i (k : IntKind) {e z : Int} (h : e = z) : FV := ⟨.int k e, .int k z, by rw [h]⟩
def g_b {a b : Bool} (h : a = b) : FV := ⟨.bool a, .bool b, by rw [h]⟩
def g_v {u v : Value} (h : u = v) : FV := ⟨u, v, h⟩
theorem w_r {e x : Int} (h : e = x) (h1 : -9223372036854775808 ≤ x := by omega) (h2 : x ≤ 9223372036854775807 := by omega) : IntKind.wrap .i64 e = x := wr64 h h1 h2
theorem w_a (a b : Nat) (h : a + b ≤ 9223372036854775807 := by omega) : IntKind.wrap .i64 (((a : Nat) : Int) + ((b : Nat) : Int)) = ((a + b : Nat) : Int) := wr64 (by omega) (by omega) (by omega)
theorem w_m (a b : Nat) (h : a * b ≤ 9223372036854775807 := by omega) : IntKind.wrap .i64 (((a : Nat) : Int) * ((b : Nat) : Int)) = ((a * b : Nat) : Int) := wr64 (Int.natCast_mul a b).symm (by omega) (by omega)
def g_n {e z : Int} (h : IntKind.wrap .i64 e = z) : FV := ⟨.int .i64 (IntKind.wrap .i64 e), .int .i64 z, by rw [h]⟩

def fvAt : List (Nat × FV) → Nat → Option FV
  | [], _ => none
  | (i, f) :: r, t => bif Nat.beq i t then some f else fvAt r t
def finOf (fs : List (Nat × FV)) (i : Nat) (v : Value) : Value := match fvAt fs i with
  | some f => f.fin
  | none => v
def rawOf (fs : List (Nat × FV)) (i : Nat) (v : Value) : Value := match fvAt fs i with
  | some f => f.raw
  | none => v
theorem raw_fin (fs : List (Nat × FV)) (i : Nat) (v : Value) : rawOf fs i v = finOf fs i v := by
  unfold rawOf finOf
  cases fvAt fs i with
  | none => rfl
  | some f => exact f.eq

section
variable (P : Program) (ops : Array Oper) (n : Nat)
def valAt (l : List (Nat × Value)) (i : Nat) : Value :=
  match opAt ops n i l with
  | some (.run _ s) => match s.run P default with
    | .ok (.value v) _ => v
    | _ => undef
  | _ => undef
def nextL (fs : List (Nat × FV)) (l : List (Nat × Value)) (i : Nat) : List (Nat × Value) :=
  match opAt ops n i l with
  | some (.run d _) => putl d (finOf fs i (valAt P ops n l i)) l
  | some (.skip d) => putl d undef l
  | none => l
def resA (w : World) (l : List (Nat × Value)) (i : Nat) : Option (Result Next) :=
  match opAt ops n i l with
  | some (.run _ s) => some (s.run P w)
  | some (.skip _) => some (.ok (.value undef) w)
  | none => none
def expA (fs : List (Nat × FV)) (w : World) (l : List (Nat × Value)) (i : Nat) : Option (Result Next) := some (.ok (.value (rawOf fs i (valAt P ops n l i))) w)
def resL (fs : List (Nat × FV)) (w : World) : List (Nat × Value) → Nat → Nat → List (Option (Result Next))
  | _, _, 0 => []
  | l, i, m + 1 => resA P ops n w l i :: resL fs w (nextL P ops n fs l i) (i + 1) m
def expL (fs : List (Nat × FV)) (w : World) : List (Nat × Value) → Nat → Nat → List (Option (Result Next))
  | _, _, 0 => []
  | l, i, m + 1 => expA P ops n fs w l i :: expL fs w (nextL P ops n fs l i) (i + 1) m
def endL (fs : List (Nat × FV)) : List (Nat × Value) → Nat → Nat → List (Nat × Value)
  | l, _, 0 => l
  | l, i, m + 1 => endL fs (nextL P ops n fs l i) (i + 1) m
end

section
variable {P : Program} {ops : Array Oper} {Q : Exit → Act → World → Prop} {n i : Nat} {l : List (Nat × Value)} {a : Act} {w w0 : World} {d : Option Tmp} {L L0 : List Ent} {K : Act → World → Prop}

theorem dense_go (fs : List (Nat × FV)) : ∀ (m i : Nat) (l : List (Nat × Value)) (a : Act), Env a n l → resL P ops n fs w l i m = expL P ops n fs w l i m →
    (∀ a', Env a' n (endL P ops n fs l i m) → From P ops Q (i + m) a' w) → From P ops Q i a w
  | 0, i, l, a, E, _, next => next a E
  | m + 1, i, l, a, E, h, next => by
    simp only [resL, expL, List.cons.injEq] at h
    obtain ⟨h1, h2⟩ := h
    have go : ∀ a', Env a' n (nextL P ops n fs l i) → From P ops Q (i + 1) a' w := fun a' E' => dense_go fs m (i + 1) _ a' E' h2 fun a'' E'' => by
      have := next a'' E''
      rwa [show i + (m + 1) = i + 1 + m by omega] at this
    unfold resA expA at h1
    unfold nextL at go
    cases ho : opAt ops n i l with
    | none => simp [ho] at h1
    | some x =>
      cases x with
      | run d s =>
        simp only [ho, Option.some.injEq] at h1 go
        rw [raw_fin] at h1
        exact step_run E ho h1 go
      | skip d =>
        simp only [ho] at go
        exact step_skip E ho go

/-- some operations without memory -/
theorem d_k (ls : List Nat) (fs : List (Nat × FV)) (k : Nat) (E : Env a n l) (next : ∀ a', Env a' n (keepL ls (endL P ops n fs l i (k - i))) → From P ops Q k a' w)
    (h : (fun w => resL P ops n fs w l i (k - i)) = fun w => expL P ops n fs w l i (k - i) := by kernel_rfl) (hk : i + (k - i) = k := by kernel_rfl) : From P ops Q i a w :=
  dense_go fs (k - i) i l a E (congrFun h w) fun a' E' => by rw [hk]; exact next a' (E'.keep ls)
/-- .. up to the region's end -/
theorem d_e (ls : List Nat) (fs : List (Nat × FV)) (E : Env a n l) (next : ∀ a', Env a' n (keepL ls (endL P ops n fs l i (ops.size - i))) → Q .normal a' w)
    (h : (fun w => resL P ops n fs w l i (ops.size - i)) = fun w => expL P ops n fs w l i (ops.size - i) := by kernel_rfl) (hk : i + (ops.size - i) = ops.size := by kernel_rfl) : From P ops Q i a w :=
  dense_go fs (ops.size - i) i l a E (congrFun h w) fun a' E' => from_end hk.symm (next a' (E'.keep ls))
/-- a whole region -/
theorem d_r {id : Nat} (ls : List Nat) (fs : List (Nat × FV)) (E : Env a n l) (next : ∀ a', Env a' n (keepL ls (endL P ops n fs l 0 (ops.size - 0))) → Q .normal a' w)
    (h : (fun w => resL P ops n fs w l 0 (ops.size - 0)) = fun w => expL P ops n fs w l 0 (ops.size - 0) := by kernel_rfl) : (Code.region id ops false).wp P Q a w :=
  region_from (d_e ls fs E next h (by omega))
theorem d_s {id : Nat} {y : Code} (ls : List Nat) (fs : List (Nat × FV)) (E : Env a n l) (next : ∀ a', Env a' n (keepL ls (endL P ops n fs l 0 (ops.size - 0))) → y.wp P Q a' w)
    (h : (fun w => resL P ops n fs w l 0 (ops.size - 0)) = fun w => expL P ops n fs w l 0 (ops.size - 0) := by kernel_rfl) : (Code.seq (Code.region id ops false) y).wp P Q a w :=
  wp_seq (d_r ls fs E next h)
theorem from0 (h : From P ops Q i a w) (hi : i + 0 = i) : From P ops Q (i + 0) a w := by rw [hi]; exact h
theorem f_o (h : wpOp P ops Q i (From P ops Q (i + 1)) a w) (hi : Nat.blt i ops.size = true := by kernel_rfl) : From P ops Q i a w := from_op hi h
theorem f_e (h : Q .normal a w) (hs : ops.size = i := by kernel_rfl) : From P ops Q i a w := from_end hs h

/-- a slot is told in another form -/
theorem Env.fx {t : Nat} {v u : Value} (E : Env a n l) (hv : v = u) (h : look l t = some v := by kernel_rfl) : Env a n ((t, u) :: l) := by
  subst hv
  refine ⟨E.size, E.defers, fun i x hx => ?_⟩
  by_cases e : t = i
  · subst e
    rw [look_self] at hx
    rw [← hx]
    exact E.slot t v h
  · rw [look_other _ _ e] at hx
    exact E.slot i x hx
theorem Env.sb {l' : List (Nat × Value)} (E : Env a n l) (h : l'.map (fun p => look l p.1) = l'.map (fun p => some p.2) := by kernel_rfl) : Env a n l' := E.sub h
def nodupB : List Nat → Bool
  | [] => true
  | i :: r => !r.contains i && nodupB r
theorem nodup_of : ∀ {l : List Nat}, nodupB l = true → l.Nodup
  | [], _ => List.nodup_nil
  | i :: r, h => by
    simp only [nodupB, Bool.and_eq_true, Bool.not_eq_true'] at h
    refine List.nodup_cons.2 ⟨fun hm => ?_, nodup_of h.2⟩
    have := List.contains_iff_mem.2 hm
    rw [h.1] at this
    cases this
theorem Ev.pk {w' : World} {L' : List Ent} (h : Ev w L w' L') (is : List Nat) {M : List Ent} (hm : M.map some = is.map (fun i => L'[i]?) := by kernel_rfl) (nd : nodupB is = true := by kernel_rfl) : Ev w L w' M := h.pick is hm (nodup_of nd)
theorem Heap.pk (h : Heap w L) (is : List Nat) {M : List Ent} (hm : M.map some = is.map (fun i => L[i]?) := by kernel_rfl) (nd : nodupB is = true := by kernel_rfl) : Heap w M := h.pick is hm (nodup_of nd)

/-! ## conditions -/
theorem c_d {c : Nat} {x y : Code} (p : Prop) [Decidable p] (E : Env a n l) (ht : p → x.wp P Q a w) (hf : ¬ p → y.wp P Q a w) (hc : look l c = some (.bool (decide p)) := by kernel_rfl) : (Code.cond (.tmp c) x y).wp P Q a w :=
  cond_at E hc (fun h => ht (of_decide_eq_true h)) (fun h => hf (of_decide_eq_false h))
theorem c_e {c : Nat} {x y : Code} (u v : Int) (E : Env a n l) (ht : u = v → x.wp P Q a w) (hf : ¬ u = v → y.wp P Q a w) (hc : look l c = some (.bool (u == v)) := by kernel_rfl) : (Code.cond (.tmp c) x y).wp P Q a w :=
  cond_at E hc (fun h => ht (eq_of_beq h)) (fun h => hf (ne_of_beq_false h))
theorem c_n {c : Nat} {x y : Code} (u v : Int) (E : Env a n l) (ht : ¬ u = v → x.wp P Q a w) (hf : u = v → y.wp P Q a w) (hc : look l c = some (.bool (u != v)) := by kernel_rfl) : (Code.cond (.tmp c) x y).wp P Q a w :=
  cond_at E hc (fun h => ht (by simpa using h)) (fun h => hf (by simpa using h))
theorem c_t {c : Nat} {x y : Code} (E : Env a n l) (h : x.wp P Q a w) (hc : look l c = some (.bool true) := by kernel_rfl) : (Code.cond (.tmp c) x y).wp P Q a w := cond_true E hc rfl h
theorem c_f {c : Nat} {x y : Code} (E : Env a n l) (h : y.wp P Q a w) (hc : look l c = some (.bool false) := by kernel_rfl) : (Code.cond (.tmp c) x y).wp P Q a w := cond_false E hc rfl h

/-! ## memory -/
def opD (ops : Array Oper) (i : Nat) : Option Tmp := match ops[i]? with
  | some o => o.dst
  | none => none
def opTy (ops : Array Oper) (i : Nat) : TypeId := match ops[i]? with
  | some o => match o.op with
    | .load t _ => t
    | .store t _ _ => t
    | .alloc t => t
    | .box t _ => t
    | _ => 0
  | none => 0
def opV (ops : Array Oper) (l : List (Nat × Value)) (i k : Nat) : Value := match ops[i]? with
  | some o => val l (o.op.operands.getD k (.const undef))
  | none => undef
def adV : Value → Addr
  | .pointer (some a) => a
  | _ => ⟨0, 0, none⟩
def offV (v : Value) : Nat := (adV v).off
def boxB (L : List Ent) (k : Nat) : Nat := match L[k]? with
  | some (.box b _ _) => b
  | _ => 0
def boxC (L : List Ent) (k : Nat) : List Value := match L[k]? with
  | some (.box _ cs _) => cs
  | _ => []
def boxT (L : List Ent) (k : Nat) : TypeId := match L[k]? with
  | some (.box _ _ T) => T
  | _ => 0
def cellV (L : List Ent) (k off : Nat) : Value := match (boxC L k)[off]? with
  | some v => v
  | none => undef
/-- a load of a cell -/
theorem m_l (k : Nat) (E : Env a n l) (H : Ev w0 L0 w L) (next : ∀ a', Env a' n (putl (opD ops i) (cellV L k (offV (opV ops l i 0))) l) → K a' w)
    (h : opAt ops n i l = some (.run (opD ops i) (nv (Instr.loadAt (opTy ops i) (.pointer (some ⟨boxB L k, offV (opV ops l i 0), none⟩))))) := by kernel_rfl)
    (hk : L[k]? = some (.box (boxB L k) (boxC L k) (boxT L k)) := by kernel_rfl) (hv : (boxC L k)[offV (opV ops l i 0)]? = some (cellV L k (offV (opV ops l i 0))) := by kernel_rfl)
    (ht : (fun w => (isAgg (opTy ops i)).run P w) = fun w => .ok false w := by kernel_rfl) : wpOp P ops Q i K a w := op_loadbox E h H hk hv ht next
/-- .. of a cell whose value is told -/
theorem m_v (k off : Nat) (v : Value) (E : Env a n l) (H : Ev w0 L0 w L) {b : Nat} {cs : List Value} {T : TypeId} (hk : L[k]? = some (.box b cs T)) (hv : cs[off]? = some v) (next : ∀ a', Env a' n (putl (opD ops i) v l) → K a' w)
    (h : opAt ops n i l = some (.run (opD ops i) (nv (Instr.loadAt (opTy ops i) (.pointer (some ⟨b, off, none⟩))))) := by kernel_rfl)
    (ht : (fun w => (isAgg (opTy ops i)).run P w) = fun w => .ok false w := by kernel_rfl) : wpOp P ops Q i K a w := op_loadbox E h H hk hv ht next
/-- a load of several cells -/
theorem m_a (k off m : Nat) (xs : List Value) (E : Env a n l) (H : Ev w0 L0 w L) {b : Nat} {cs : List Value} {T : TypeId} (hk : L[k]? = some (.box b cs T)) (hx : (cs.drop off).take m = xs) (hm : xs.length = m) (next : ∀ a', Env a' n (putl (opD ops i) (.agg xs.toArray) l) → K a' w)
    (h : opAt ops n i l = some (.run (opD ops i) (nv (Instr.loadAt (opTy ops i) (.pointer (some ⟨b, off, none⟩))))) := by kernel_rfl)
    (ht : (fun w => (isAgg (opTy ops i)).run P w) = fun w => .ok true w := by kernel_rfl) (hs : (fun w => (sizeOf (opTy ops i)).run P w) = fun w => .ok m w := by kernel_rfl) : wpOp P ops Q i K a w := op_loadaggbox E h H hk hx hm ht hs next
/-- a store of a cell -/
theorem m_s (k : Nat) (L' : List Ent) (E : Env a n l) (H : Ev w0 L0 w L) (next : ∀ a' w', Env a' n (putl (opD ops i) undef l) → Ev w0 L0 w' L' → K a' w')
    (h : opAt ops n i l = some (.run (opD ops i) (nu (Instr.storeAt (opTy ops i) (.pointer (some ⟨boxB L k, offV (opV ops l i 0), none⟩)) (opV ops l i 1)))) := by kernel_rfl)
    (hk : L[k]? = some (.box (boxB L k) (boxC L k) (boxT L k)) := by kernel_rfl) (ho : (boxC L k)[offV (opV ops l i 0)]? = some (cellV L k (offV (opV ops l i 0))) := by kernel_rfl)
    (hs : (fun w => (sizeOf (opTy ops i)).run P w) = fun w => .ok 1 w := by kernel_rfl) (hv : (opV ops l i 1).oneCell' = true := by kernel_rfl)
    (hL : L.set k (.box (boxB L k) ((boxC L k).set (offV (opV ops l i 0)) (opV ops l i 1)) (boxT L k)) = L' := by kernel_rfl) : wpOp P ops Q i K a w := op_storebox E h H hk ho hs hv hL next
/-- .. where the cells behind it are told -/
theorem m_t (k off : Nat) (v : Value) (L' : List Ent) (E : Env a n l) (H : Ev w0 L0 w L) {b : Nat} {cs cs' : List Value} {T : TypeId} {old : Value} (hk : L[k]? = some (.box b cs T)) (ho : cs[off]? = some old) (hc : cs.set off v = cs') (hL : L.set k (.box b cs' T) = L')
    (next : ∀ a' w', Env a' n (putl (opD ops i) undef l) → Ev w0 L0 w' L' → K a' w')
    (h : opAt ops n i l = some (.run (opD ops i) (nu (Instr.storeAt (opTy ops i) (.pointer (some ⟨b, off, none⟩)) v))) := by kernel_rfl)
    (hs : (fun w => (sizeOf (opTy ops i)).run P w) = fun w => .ok 1 w := by kernel_rfl) (hv : v.oneCell' = true := by kernel_rfl) : wpOp P ops Q i K a w := by
  subst hc
  exact op_storebox E h H hk ho hs hv hL next
/-- a store of several cells -/
theorem m_g (k off m : Nat) (xs cs' : List Value) (L' : List Ent) (E : Env a n l) (H : Ev w0 L0 w L) {b : Nat} {cs : List Value} {T : TypeId} (hk : L[k]? = some (.box b cs T)) (hm : xs.length = m) (hl : off + m ≤ cs.length) (h1 : ∀ u ∈ xs, u.oneCell' = true) (hc : cs.take off ++ xs ++ cs.drop (off + m) = cs') (hL : L.set k (.box b cs' T) = L')
    (next : ∀ a' w', Env a' n (putl (opD ops i) undef l) → Ev w0 L0 w' L' → K a' w')
    (h : opAt ops n i l = some (.run (opD ops i) (nu (Instr.storeAt (opTy ops i) (.pointer (some ⟨b, off, none⟩)) (opV ops l i 1)))) := by kernel_rfl)
    (hv : (opV ops l i 1).cells = xs.toArray := by kernel_rfl)
    (hs : (fun w => (sizeOf (opTy ops i)).run P w) = fun w => .ok m w := by kernel_rfl) : wpOp P ops Q i K a w := op_storeaggbox E h H hk hv hm hl hs h1 hc hL next
/-- a new variable, its cells told -/
theorem m_m (T : TypeId) (cs : List Value) (E : Env a n l) (H : Ev w0 L0 w L) (next : ∀ a' w' b, Env a' n (putl (opD ops i) (.pointer (some ⟨b, 0, none⟩)) l) → Ev w0 L0 w' (L ++ [.box b cs T]) → K a' w')
    (h : opAt ops n i l = some (.run (opD ops i) (nv (Instr.box T (opV ops l i 0)))) := by kernel_rfl) (hc : (opV ops l i 0).cells.toList = cs := by kernel_rfl) : wpOp P ops Q i K a w := op_newbox E h hc H next
def zeroV (P : Program) (t : TypeId) : Value := match (zeroValue t).run P default with
  | .ok v _ => v
  | _ => undef
/-- a variable whose address is taken -/
theorem m_z (T : TypeId) (cs : List Value) (E : Env a n l) (H : Ev w0 L0 w L) (next : ∀ a' w' b, Env a' n (putl (opD ops i) (.pointer (some ⟨b, 0, none⟩)) l) → Ev w0 L0 w' (L ++ [.box b cs T]) → K a' w')
    (h : opAt ops n i l = some (.run (opD ops i) (nv (Instr.alloc T true (.tuple #[])))) := by kernel_rfl) (hz : (fun w => (zeroValue T).run P w) = fun w => .ok (zeroV P T) w := by kernel_rfl)
    (hc : (zeroV P T).cells.toList = cs := by kernel_rfl) : wpOp P ops Q i K a w := op_alloc E h hz hc H next

/-! ## calls -/
def restI (is : List Nat) (m : Nat) : List Nat := (List.range m).filter fun i => !is.contains i
def restE (L : List Ent) (is : List Nat) : List Ent := (restI is L.length).filterMap fun i => L[i]?
theorem rest_map {L : List Ent} : ∀ {js : List Nat}, (∀ j ∈ js, j < L.length) → (js.filterMap fun i => L[i]?).map some = js.map fun i => L[i]?
  | [], _ => rfl
  | j :: r, h => by
    have hj := h j (by simp)
    rw [List.filterMap_cons, List.getElem?_eq_getElem hj]
    simp only [List.map_cons]
    rw [rest_map fun k hk => h k (by simp [hk]), List.getElem?_eq_getElem hj]
theorem restI_nodup {is : List Nat} (h : is.Nodup) (m : Nat) : (is ++ restI is m).Nodup := by
  rw [List.nodup_append]
  refine ⟨h, (List.nodup_range).filter _, fun a ha b hb e => ?_⟩
  subst e
  have := (List.mem_filter.1 hb).2
  simp only [Bool.not_eq_true'] at this
  have h2 := List.contains_iff_mem.2 ha
  rw [this] at h2
  cases h2
/-- entries 'is' go along -/
theorem c_l (is : List Nat) {f : FuncId} {args : Array Value} {M : List Ent} {post : Ending → World → Prop} (E : Env a n l) (H : Ev w0 L0 w L) (hc : Heap w M → Calls P f args w post)
    (next : ∀ e w', post e w' → ∃ v M' L', e = .returned v ∧ Ev w M w' M' ∧ M' ++ restE L is = L' ∧ ∀ a', Env a' n (putl (opD ops i) v l) → Ev w0 L0 w' L' → K a' w')
    (h : opRuns P ops n i l = some (opD ops i, fun w => .ok (.enter f args) w) := by kernel_rfl) (hm : M.map some = is.map (fun i => L[i]?) := by kernel_rfl) (nd : nodupB is = true := by kernel_rfl) : wpOp P ops Q i K a w := by
  refine op_call E h ((hc (H.heap.pick is hm (nodup_of nd))).mono fun e w' he => ?_)
  obtain ⟨v, M', L', he1, he2, rfl, hn⟩ := next e w' he
  refine ⟨v, he1, fun a' E' => hn a' E' (H.trans (Ev.call H.heap (is ++ restI is L.length) ?_ (restI_nodup (nodup_of nd) _) he2))⟩
  rw [List.map_append, List.map_append, hm]
  congr 1
  exact rest_map fun j hj => List.mem_range.1 (List.mem_filter.1 hj).1
/-- nothing goes along -/
theorem c_0 {f : FuncId} {args : Array Value} {post : Ending → World → Prop} (E : Env a n l) (H : Ev w0 L0 w L) (hc : Calls P f args w post)
    (next : ∀ e w', post e w' → ∃ v M' L', e = .returned v ∧ Ev w [] w' M' ∧ M' ++ L = L' ∧ ∀ a', Env a' n (putl (opD ops i) v l) → Ev w0 L0 w' L' → K a' w')
    (h : opRuns P ops n i l = some (opD ops i, fun w => .ok (.enter f args) w) := by kernel_rfl) : wpOp P ops Q i K a w := by
  refine op_call E h (hc.mono fun e w' he => ?_)
  obtain ⟨v, M', L', he1, he2, rfl, hn⟩ := next e w' he
  exact ⟨v, he1, fun a' E' => hn a' E' (H.trans (Ev.frame (R := L) (L := []) H.heap he2))⟩

/-- a function that changes nothing -/
theorem c_p {f : FuncId} {args : Array Value} {v : Value} (E : Env a n l) (H : Ev w0 L0 w L) (hc : Calls P f args w fun e w' => e = .returned v ∧ Ev w [] w' [])
    (next : ∀ a' w', Env a' n (putl (opD ops i) v l) → Ev w0 L0 w' L → K a' w')
    (h : opRuns P ops n i l = some (opD ops i, fun w => .ok (.enter f args) w) := by kernel_rfl) : wpOp P ops Q i K a w :=
  c_0 E H hc (fun _ w' ⟨he1, he2⟩ => ⟨v, [], L, he1, he2, rfl, fun a' E' H' => next a' w' E' H'⟩) h
/-- the start of a function -/
theorem d_0 {P : Program} {f : FuncId} {args : Array Value} {R : Ending → World → Prop} {w : World} {L : List Ent} (l : List (Nat × Value)) (n : Nat) {fn : Func} {c : Code} (hf : P.funcs[f]? = some fn) (hn : fn.ntmps = n) (hH : Heap w L)
    (h : ∀ a, Env a n l → Ev w L w L → c.wp P (bodyPost P fn R) a w) (hb : fn.body = some c := by rfl) (hs : Nat.ble args.size n = true := by kernel_rfl) (hl : l.map (fun p => args[p.1]?) = l.map (fun p => some p.2) := by kernel_rfl) : Calls P f args w R :=
  d_start l n hf hn hb hs hl fun a E => h a E (Ev.refl hH)

/-! ## regions whose order is drawn -/
section
variable {S : World → Prop} {St : List Nat}
def condL (ops : Array Oper) (St : List Nat) : List Nat → Array Bool → Bool
  | [], _ => true
  | i :: r, listed => (Region.noSelect ops && Region.free .any ops listed i && (Region.ready .any ops listed).contains i && (St.all fun s => s != i)) && condL ops St r (listed.setIfInBounds i true)
def doneL : List Nat → Array Bool → Array Bool
  | [], listed => listed
  | i :: r, listed => doneL r (listed.setIfInBounds i true)
def resI (P : Program) (ops : Array Oper) (n : Nat) (fs : List (Nat × FV)) (w : World) : List (Nat × Value) → List Nat → List (Option (Result Next))
  | _, [] => []
  | l, i :: r => resA P ops n w l i :: resI P ops n fs w (nextL P ops n fs l i) r
def expI (P : Program) (ops : Array Oper) (n : Nat) (fs : List (Nat × FV)) (w : World) : List (Nat × Value) → List Nat → List (Option (Result Next))
  | _, [] => []
  | l, i :: r => expA P ops n fs w l i :: expI P ops n fs w (nextL P ops n fs l i) r
def endI (P : Program) (ops : Array Oper) (n : Nat) (fs : List (Nat × FV)) : List (Nat × Value) → List Nat → List (Nat × Value)
  | l, [] => l
  | l, i :: r => endI P ops n fs (nextL P ops n fs l i) r
theorem hs_go {F : Act → World → Prop} (fs : List (Nat × FV)) (hS : S w) : ∀ (is : List Nat) (m : Nat) (l : List (Nat × Value)) (listed : Array Bool) (a : Act), Env a n l → (fun w => resI P ops n fs w l is) = (fun w => expI P ops n fs w l is) → condL ops St is listed = true →
    (∀ a', Env a' n (endI P ops n fs l is) → wpAnyS P ops (HQ F) S St m (doneL is listed) a' w) → wpAnyS P ops (HQ F) S St (m + is.length) listed a w
  | [], m, l, listed, a, E, _, _, next => next a E
  | i :: r, m, l, listed, a, E, h, hc, next => by
    have h1 : ∀ w, resA P ops n w l i = expA P ops n fs w l i := fun w => (List.cons.inj (congrFun h w)).1
    have h2 : (fun w => resI P ops n fs w (nextL P ops n fs l i) r) = fun w => expI P ops n fs w (nextL P ops n fs l i) r := funext fun w => (List.cons.inj (congrFun h w)).2
    have hc1 : (Region.noSelect ops && Region.free .any ops listed i && (Region.ready .any ops listed).contains i && (St.all fun s => s != i)) = true ∧ condL ops St r (listed.setIfInBounds i true) = true := (Bool.and_eq_true _ _).mp hc
    have go : ∀ a', Env a' n (nextL P ops n fs l i) → wpAnyS P ops (HQ F) S St (m + r.length) (listed.setIfInBounds i true) a' w := fun a' E' => hs_go fs hS r m _ _ a' E' h2 hc1.2 next
    show wpAnyS P ops (HQ F) S St (m + r.length + 1) listed a w
    unfold resA expA at h1
    unfold nextL at go
    cases ho : opAt ops n i l with
    | none => have := h1 w; simp [ho] at this
    | some x =>
      cases x with
      | run d s =>
        simp only [ho, Option.some.injEq] at h1 go
        rw [raw_fin] at h1
        exact h_free E i ho h1 hc1.1 rfl (fun _ => hS) go
      | skip d =>
        simp only [ho] at go
        exact h_skip E i ho hc1.1 rfl (fun _ => hS) go
theorem hs_go' {F : Act → World → Prop} (fs : List (Nat × FV)) : ∀ (is : List Nat) (m : Nat) (l : List (Nat × Value)) (listed : Array Bool) (a : Act), Env a n l → (fun w => resI P ops n fs w l is) = (fun w => expI P ops n fs w l is) → condL ops St is listed = true → (St.all fun s => !listed.getD s true) = false →
    (∀ a', Env a' n (endI P ops n fs l is) → wpAnyS P ops (HQ F) S St m (doneL is listed) a' w) → wpAnyS P ops (HQ F) S St (m + is.length) listed a w
  | [], m, l, listed, a, E, _, _, _, next => next a E
  | i :: r, m, l, listed, a, E, h, hc, hf, next => by
    have h1 : ∀ w, resA P ops n w l i = expA P ops n fs w l i := fun w => (List.cons.inj (congrFun h w)).1
    have h2 : (fun w => resI P ops n fs w (nextL P ops n fs l i) r) = fun w => expI P ops n fs w (nextL P ops n fs l i) r := funext fun w => (List.cons.inj (congrFun h w)).2
    have hc1 : (Region.noSelect ops && Region.free .any ops listed i && (Region.ready .any ops listed).contains i && (St.all fun s => s != i)) = true ∧ condL ops St r (listed.setIfInBounds i true) = true := (Bool.and_eq_true _ _).mp hc
    have hf' : (St.all fun s => !(listed.setIfInBounds i true).getD s true) = false := by
      rw [Bool.eq_false_iff] at hf ⊢
      intro hall
      apply hf
      rw [List.all_eq_true] at hall ⊢
      intro s hs
      have h3 := hall s hs
      have h4 : s ≠ i := by
        have := hc1.1
        simp only [Bool.and_eq_true, List.all_eq_true] at this
        exact by simpa using this.2 s hs
      rwa [getD_set_keep (Ne.symm h4)] at h3
    have go : ∀ a', Env a' n (nextL P ops n fs l i) → wpAnyS P ops (HQ F) S St (m + r.length) (listed.setIfInBounds i true) a' w := fun a' E' => hs_go' fs r m _ _ a' E' h2 hc1.2 hf' next
    show wpAnyS P ops (HQ F) S St (m + r.length + 1) listed a w
    unfold resA expA at h1
    unfold nextL at go
    cases ho : opAt ops n i l with
    | none => have := h1 w; simp [ho] at this
    | some x =>
      cases x with
      | run d s =>
        simp only [ho, Option.some.injEq] at h1 go
        rw [raw_fin] at h1
        exact h_free E i ho h1 hc1.1 rfl (fun h => by rw [hf] at h; cases h) go
      | skip d =>
        simp only [ho] at go
        exact h_skip E i ho hc1.1 rfl (fun h => by rw [hf] at h; cases h) go
/-- operations without memory, one behind the other; what is held still stands -/
theorem q_s {F : Act → World → Prop} {m : Nat} {listed : Array Bool} (is : List Nat) (fs : List (Nat × FV)) (m' : Nat) (E : Env a n l) (hS : S w) (next : ∀ a', Env a' n (endI P ops n fs l is) → wpAnyS P ops (HQ F) S St m' (doneL is listed) a' w)
    (h : (fun w => resI P ops n fs w l is) = (fun w => expI P ops n fs w l is) := by kernel_rfl) (hc : condL ops St is listed = true := by kernel_rfl) (hm : m = m' + is.length := by kernel_rfl) : wpAnyS P ops (HQ F) S St m listed a w := by
  subst hm
  exact hs_go fs hS is m' l listed a E h hc next
/-- .. no more -/
theorem q_n {F : Act → World → Prop} {m : Nat} {listed : Array Bool} (is : List Nat) (fs : List (Nat × FV)) (m' : Nat) (E : Env a n l) (next : ∀ a', Env a' n (endI P ops n fs l is) → wpAnyS P ops (HQ F) S St m' (doneL is listed) a' w)
    (h : (fun w => resI P ops n fs w l is) = (fun w => expI P ops n fs w l is) := by kernel_rfl) (hc : condL ops St is listed = true := by kernel_rfl) (hf : (St.all fun s => !listed.getD s true) = false := by kernel_rfl) (hm : m = m' + is.length := by kernel_rfl) : wpAnyS P ops (HQ F) S St m listed a w := by
  subst hm
  exact hs_go' fs is m' l listed a E h hc hf next
theorem any_go {F : Act → World → Prop} (fs : List (Nat × FV)) : ∀ (is : List Nat) (m : Nat) (l : List (Nat × Value)) (listed : Array Bool) (a : Act), Env a n l → (fun w => resI P ops n fs w l is) = (fun w => expI P ops n fs w l is) → condL ops [] is listed = true →
    (∀ a', Env a' n (endI P ops n fs l is) → wpAny P .any ops (HQ F) m (doneL is listed) a' w) → wpAny P .any ops (HQ F) (m + is.length) listed a w
  | [], m, l, listed, a, E, _, _, next => next a E
  | i :: r, m, l, listed, a, E, h, hc, next => by
    have h1 : ∀ w, resA P ops n w l i = expA P ops n fs w l i := fun w => (List.cons.inj (congrFun h w)).1
    have h2 : (fun w => resI P ops n fs w (nextL P ops n fs l i) r) = fun w => expI P ops n fs w (nextL P ops n fs l i) r := funext fun w => (List.cons.inj (congrFun h w)).2
    have hc1 : (Region.noSelect ops && Region.free .any ops listed i && (Region.ready .any ops listed).contains i && (([] : List Nat).all fun s => s != i)) = true ∧ condL ops [] r (listed.setIfInBounds i true) = true := (Bool.and_eq_true _ _).mp hc
    have hc2 : (Region.noSelect ops && Region.free .any ops listed i && (Region.ready .any ops listed).contains i) = true := ((Bool.and_eq_true _ _).mp hc1.1).1
    have go : ∀ a', Env a' n (nextL P ops n fs l i) → wpAny P .any ops (HQ F) (m + r.length) (listed.setIfInBounds i true) a' w := fun a' E' => any_go fs r m _ _ a' E' h2 hc1.2 next
    show wpAny P .any ops (HQ F) (m + r.length + 1) listed a w
    unfold resA expA at h1
    unfold nextL at go
    cases ho : opAt ops n i l with
    | none => have := h1 w; simp [ho] at this
    | some x =>
      cases x with
      | run d s =>
        simp only [ho, Option.some.injEq] at h1 go
        rw [raw_fin] at h1
        exact any_pure E i ho (funext h1) hc2 rfl go
      | skip d =>
        simp only [ho] at go
        exact any_skip E i ho hc2 rfl go
theorem q_a {F : Act → World → Prop} {m : Nat} {listed : Array Bool} (is : List Nat) (fs : List (Nat × FV)) (m' : Nat) (E : Env a n l) (next : ∀ a', Env a' n (endI P ops n fs l is) → wpAny P .any ops (HQ F) m' (doneL is listed) a' w)
    (h : (fun w => resI P ops n fs w l is) = (fun w => expI P ops n fs w l is) := by kernel_rfl) (hc : condL ops [] is listed = true := by kernel_rfl) (hm : m = m' + is.length := by kernel_rfl) : wpAny P .any ops (HQ F) m listed a w := by
  subst hm
  exact any_go fs is m' l listed a E h hc next
/-- a load of a cell of what is held -/
theorem q_l {F : Act → World → Prop} {Lh : List Ent} {m : Nat} {listed : Array Bool} (k i : Nat) (E : Env a n l) (hS : Ev w0 L0 w Lh)
    (next : ∀ a', Env a' n (putl (opD ops i) (cellV Lh k (offV (opV ops l i 0))) l) → wpAnyS P ops (HQ F) (fun wv => Ev w0 L0 wv Lh) St m (listed.setIfInBounds i true) a' w)
    (h : opAt ops n i l = some (.run (opD ops i) (nv (Instr.loadAt (opTy ops i) (.pointer (some ⟨boxB Lh k, offV (opV ops l i 0), none⟩))))) := by kernel_rfl)
    (hk : Lh[k]? = some (.box (boxB Lh k) (boxC Lh k) (boxT Lh k)) := by kernel_rfl) (hv : (boxC Lh k)[offV (opV ops l i 0)]? = some (cellV Lh k (offV (opV ops l i 0))) := by kernel_rfl)
    (ht : (fun w => (isAgg (opTy ops i)).run P w) = fun w => .ok false w := by kernel_rfl)
    (hc : (Region.noSelect ops && Region.free .any ops listed i && (Region.ready .any ops listed).contains i && (St.all fun s => waits ops i s && s != i) && (St.all fun s => !listed.getD s true) && closedB ops listed) = true := by kernel_rfl) :
    wpAnyS P ops (HQ F) (fun wv => Ev w0 L0 wv Lh) St (m + 1) listed a w :=
  h_read E i h (fun _ hS => run_nv (run_load1 ht (hS.heap.cell hk hv))) hc rfl hS next
theorem q_r {F : Act → World → Prop} {m : Nat} {listed : Array Bool} (i : Nat) {s : Sem Value} {v : Value} (E : Env a n l) (hv : ∀ w, S w → s.run P w = .ok v w) (hS : S w)
    (next : ∀ a', Env a' n (putl (opD ops i) v l) → wpAnyS P ops (HQ F) S St m (listed.setIfInBounds i true) a' w)
    (hr : opAt ops n i l = some (.run (opD ops i) (nv s)) := by kernel_rfl)
    (hc : (Region.noSelect ops && Region.free .any ops listed i && (Region.ready .any ops listed).contains i && (St.all fun s => waits ops i s && s != i) && (St.all fun s => !listed.getD s true) && closedB ops listed) = true := by kernel_rfl) :
    wpAnyS P ops (HQ F) S St (m + 1) listed a w :=
  h_read E i hr (fun w hS => run_nv (hv w hS)) hc rfl hS next
theorem q_f {F : Act → World → Prop} {m : Nat} {listed : Array Bool} (i : Nat) {s : Sem Value} {v : Value} (E : Env a n l) (hv : ∀ w, s.run P w = .ok v w) (hS : (St.all fun s => !listed.getD s true) = true → S w)
    (next : ∀ a', Env a' n (putl (opD ops i) v l) → wpAnyS P ops (HQ F) S St m (listed.setIfInBounds i true) a' w)
    (hr : opAt ops n i l = some (.run (opD ops i) (nv s)) := by kernel_rfl)
    (hc : (Region.noSelect ops && Region.free .any ops listed i && (Region.ready .any ops listed).contains i && (St.all fun s => s != i)) = true := by kernel_rfl) :
    wpAnyS P ops (HQ F) S St (m + 1) listed a w :=
  h_free E i hr (fun w => run_nv (hv w)) hc rfl hS next
theorem q_g {F : Act → World → Prop} {m : Nat} {listed : Array Bool} (i : Nat) {s : Sem Value} {v : Value} (E : Env a n l) (hv : ∀ w, s.run P w = .ok v w)
    (next : ∀ a', Env a' n (putl (opD ops i) v l) → wpAny P .any ops (HQ F) m (listed.setIfInBounds i true) a' w)
    (hr : opAt ops n i l = some (.run (opD ops i) (nv s)) := by kernel_rfl)
    (hc : (Region.noSelect ops && Region.free .any ops listed i && (Region.ready .any ops listed).contains i) = true := by kernel_rfl) :
    wpAny P .any ops (HQ F) (m + 1) listed a w :=
  any_pure E i hr (funext fun w => run_nv (hv w)) hc rfl next
theorem q_t {m : Nat} {listed : Array Bool} (i : Nat) (h : wpOp P ops Q i (fun a' w' => ((St.all fun s => !(listed.setIfInBounds i true).getD s true) = true → S w') ∧ wpAnyS P ops Q S St m (listed.setIfInBounds i true) a' w') a w)
    (hr : Region.ready .any ops listed = [i] := by kernel_rfl) : wpAnyS P ops Q S St (m + 1) listed a w := h_at i hr rfl h
theorem q_u {m : Nat} {listed : Array Bool} (i : Nat) (h : wpOp P ops Q i (wpAny P .any ops Q m (listed.setIfInBounds i true)) a w) (hr : Region.ready .any ops listed = [i] := by kernel_rfl) : wpAny P .any ops Q (m + 1) listed a w := any_at i hr rfl h
theorem h_s {F : Act → World → Prop} {id : Nat} (S : World → Prop) (St : List Nat) (m : Nat) (h : wpAnyS P ops (HQ F) S St m (Array.replicate m false) a w.drew) (hm : P.follows .mixedOrders = true := by kernel_rfl) (hs : ops.size = m := by kernel_rfl) : (Code.region id ops true).wp P (HQ F) a w := h_start S St hm m hs h
theorem h_e {F : Act → World → Prop} {m : Nat} {listed : Array Bool} (h : F a w) (hr : Region.ready .any ops listed = [] := by kernel_rfl) : wpAnyS P ops (HQ F) S St m listed a w := h_end hr h
theorem a_e {F : Act → World → Prop} {m : Nat} {listed : Array Bool} (h : F a w) (hr : Region.ready .any ops listed = [] := by kernel_rfl) : wpAny P .any ops (HQ F) m listed a w := any_end hr h
theorem r_c {c : Code} (F : Act → World → Prop) (h : c.wp P (HQ F) a w) (next : ∀ a' w', F a' w' → Q .normal a' w') : c.wp P Q a w := region_cut h next
theorem q_y {b : Bool} {p : Prop} (h : b = false := by kernel_rfl) : b = true → p := not_yet h
theorem q_v {x : Sem Value} {v : Value} (E : Env a n l) (hr : x.run P w = .ok v w) (next : ∀ a', Env a' n (putl (opD ops i) v l) → K a' w) (h : opAt ops n i l = some (.run (opD ops i) (nv x)) := by kernel_rfl) : wpOp P ops Q i K a w := op_val E h hr next
end
end
end Go.Dbr
