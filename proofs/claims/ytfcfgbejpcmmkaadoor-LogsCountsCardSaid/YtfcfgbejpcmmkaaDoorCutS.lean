/- Slices of structs are cut and joined; texts in their order; keys are taken out of maps. -/
import Derived.Test.YtfcfgbejpcmmkaaDoorSv
import Derived.Test.YtfcfgbejpcmmkaaDoorIter
namespace Go.Dbr
open Go Go.RowKit

section
variable {α : Type}
theorem flat_take {f : α → List Value} {sz : Nat} (hf : ∀ x, (f x).length = sz) : ∀ (l : List α) (i : Nat), (l.flatMap f).take (i * sz) = (l.take i).flatMap f
  | [], i => by simp
  | x :: r, 0 => by simp
  | x :: r, i + 1 => by
    rw [List.flatMap_cons, List.take_succ_cons, List.flatMap_cons, Nat.succ_mul, Nat.add_comm, List.take_append, hf, List.take_of_length_le (by rw [hf]; omega), show sz + i * sz - sz = i * sz by omega, flat_take hf r i]
theorem flat_drop {f : α → List Value} {sz : Nat} (hf : ∀ x, (f x).length = sz) : ∀ (l : List α) (i : Nat), (l.flatMap f).drop (i * sz) = (l.drop i).flatMap f
  | [], i => by simp
  | x :: r, 0 => by simp
  | x :: r, i + 1 => by
    rw [List.flatMap_cons, List.drop_succ_cons, Nat.succ_mul, Nat.add_comm, List.drop_append, hf, List.drop_of_length_le (by rw [hf]; omega), show sz + i * sz - sz = i * sz by omega, flat_drop hf r i, List.nil_append]
theorem sv_lenn {f : α → List Value} {sz n : Nat} {l : List α} (hf : ∀ x, (f x).length = sz) (h : n = l.length) : (l.flatMap f).length = n * sz := by rw [sv_len hf, h]
theorem sv_take_reads {w : World} {ao : Option Addr} {f : α → List Value} {sz : Nat} {l : List α} (hf : ∀ x, (f x).length = sz) (h : Reads w ao (l.flatMap f)) (hi : Nat) : Reads w ao ((l.take hi).flatMap f) := by
  rw [← flat_take hf]
  exact h.take _
theorem sv_drop_reads {w : World} {ao : Option Addr} {f : α → List Value} {sz : Nat} {l : List α} (hf : ∀ x, (f x).length = sz) (h : Reads w ao (l.flatMap f)) (cap lo : Nat) {n : Nat} (hn : l.length = n) (h1 : lo ≤ n) (hc : n ≤ cap) : Reads w (cutAt ao cap lo sz) ((l.drop lo).flatMap f) := by
  have := h.cut (sz := sz) (n := n) (cap := cap) (by rw [sv_len hf, hn]) lo n h1 (Nat.le_refl _) hc
  rw [flat_drop hf, flat_take hf, List.take_of_length_le (by simp; omega)] at this
  exact this
theorem sv_nz {f : α → List Value} {sz : Nat} {w : World} {L : List Ent} (h : Heap w L) {k : Nat} {a : Option Addr} {cap : Nat} {xs : List α} {T : TypeId} (hk : L[k]? = some (.vec a cap sz (xs.flatMap f) T)) (hf : ∀ x, (f x).length = sz) (h1 : 0 < sz) : a = none → xs.length = 0 := fun ha => by
  have h0 : Ent.holds0 w (.vec a cap sz (xs.flatMap f) T) := h.holds k _ hk
  subst ha
  obtain ⟨_, h2⟩ := h0
  have := sv_len hf xs
  rw [h2] at this
  rcases Nat.eq_zero_or_pos xs.length with e | e
  · exact e
  · have := Nat.mul_pos e h1; simp at *; omega
theorem sv_vcap {f : α → List Value} {sz : Nat} {w : World} {L : List Ent} (h : Heap w L) {k : Nat} {a : Option Addr} {cap : Nat} {xs : List α} {T : TypeId} (hk : L[k]? = some (.vec a cap sz (xs.flatMap f) T)) (hf : ∀ x, (f x).length = sz) (h1 : 0 < sz) : xs.length ≤ cap := by
  have hn := sv_nz h hk hf h1
  have h0 : Ent.holds0 w (.vec a cap sz (xs.flatMap f) T) := h.holds k _ hk
  cases a with
  | none => rw [hn rfl]; exact Nat.zero_le _
  | some ad =>
    obtain ⟨_, _, h3, _⟩ := h0
    rw [sv_len hf] at h3
    exact Nat.le_of_mul_le_mul_right h3 h1
theorem flat_set {α : Type} {f : α → List Value} {sz : Nat} (hf : ∀ x, (f x).length = sz) {x x' : α} {v : Value} : ∀ {xs : List α} {i off : Nat}, xs[i]? = some x → off < sz → (f x).set off v = f x' → (xs.flatMap f).set (i * sz + off) v = (xs.set i x').flatMap f
  | [], _, _, h, _, _ => by simp at h
  | y :: r, 0, off, h, ho, he => by
    simp only [List.getElem?_cons_zero, Option.some.injEq] at h
    subst h
    rw [List.flatMap_cons, Nat.zero_mul, Nat.zero_add, List.set_append_left _ _ (by rw [hf]; exact ho), he]
    rfl
  | y :: r, i + 1, off, h, ho, he => by
    have h2 : r[i]? = some x := h
    rw [List.flatMap_cons, List.set_append_right _ _ (by rw [hf, Nat.succ_mul]; omega), hf, show (i + 1) * sz + off - sz = i * sz + off by rw [Nat.succ_mul]; omega, flat_set hf h2 ho he]
    rfl
/-- the cells of one element are put anew -/
theorem flat_put {f : α → List Value} {sz : Nat} (hf : ∀ x, (f x).length = sz) (y : α) : ∀ (l : List α) (i : Nat), i < l.length → (l.flatMap f).take (i * sz) ++ f y ++ (l.flatMap f).drop (i * sz + sz) = (l.set i y).flatMap f
  | [], i, h => absurd h (Nat.not_lt_zero _)
  | x :: r, 0, _ => by
    rw [List.set_cons_zero, List.flatMap_cons, List.flatMap_cons, Nat.zero_mul, List.take_zero, List.nil_append, Nat.zero_add, List.drop_left' (hf x)]
  | x :: r, i + 1, h => by
    have ih := flat_put hf y r i (by simpa using h)
    rw [List.set_cons_succ, List.flatMap_cons, List.flatMap_cons, ← ih, Nat.succ_mul]
    rw [show i * sz + sz = sz + i * sz from Nat.add_comm _ _, List.take_append, hf, List.take_of_length_le (by rw [hf]; omega), show sz + i * sz - sz = i * sz by omega]
    rw [List.drop_append, hf, List.drop_of_length_le (by rw [hf]; omega), List.nil_append, show sz + i * sz + sz - sz = sz + i * sz by omega]
    simp only [List.append_assoc]
end

theorem bytesLess_eq : ∀ (x y : List UInt8), Op.bytesLess x y = decide (x < y)
  | [], [] => by simp [Op.bytesLess]
  | _ :: _, [] => by simp [Op.bytesLess]
  | [], _ :: _ => by simp [Op.bytesLess]
  | a :: x, b :: y => by
    rw [Op.bytesLess, bytesLess_eq x y]
    simp only [List.cons_lt_cons_iff]
    by_cases h1 : a < b <;> by_cases h2 : a = b <;> by_cases h3 : x < y <;> simp [h1, h2, h3]
theorem str_ge (l m : List UInt8) : (!(Op.bytesLess (ByteArray.toList (bstr l)) (ByteArray.toList (bstr m)))) = !decide (l < m) := by rw [bstr_toList, bstr_toList, bytesLess_eq]
theorem str_gt (l m : List UInt8) : (!(Op.bytesLess (ByteArray.toList (bstr l)) (ByteArray.toList (bstr m)) || ByteArray.toList (bstr l) == ByteArray.toList (bstr m))) = decide (m < l) := by
  rw [bstr_toList, bstr_toList, bytesLess_eq, Bool.eq_iff_iff]
  simp only [Bool.not_eq_true', Bool.or_eq_false_iff, decide_eq_false_iff_not, decide_eq_true_eq, beq_eq_false_iff_ne, ne_eq]
  constructor
  · rintro ⟨h1, h2⟩
    exact Decidable.byContradiction fun h3 => h2 (List.le_antisymm (List.not_lt.1 h3) (List.not_lt.1 h1))
  · intro h
    refine ⟨fun g => List.lt_irrefl _ (List.lt_trans h g), fun g => ?_⟩
    rw [g] at h
    exact List.lt_irrefl _ h

/-- a key is taken out -/
def kvCut {α : Type} (k : List UInt8) : List (List UInt8 × α) → List (List UInt8 × α)
  | [] => []
  | p :: r => if k = p.1 then r else p :: kvCut k r

section
variable {P : Program} {ops : Array Oper} {Q : Exit → Act → World → Prop} {n i : Nat} {l : List (Nat × Value)} {a : Act} {w w0 : World} {d : Option Tmp} {L L0 : List Ent} {K : Act → World → Prop}
theorem kv_erase {α : Type} {f : α → Value} {k : List UInt8} : ∀ {es : List MapEntry} {m : List (List UInt8 × α)} {i j : Nat} {u : α}, es.map (fun e => (e.key, e.val)) = kvs f m → kvFind k m i = some (i + j, u) →
    (es.eraseIdx j).map (fun e => (e.key, e.val)) = kvs f (kvCut k m)
  | [], [], i, j, u, _, h => by simp [kvFind] at h
  | [], p :: r, i, j, u, h, _ => by simp [kvs] at h
  | e :: es, [], i, j, u, h, _ => by simp [kvs] at h
  | e :: es, p :: r, i, j, u, h, hf => by
    simp only [kvs, List.map_cons, List.cons.injEq, Prod.mk.injEq] at h
    obtain ⟨⟨h1, h2⟩, h3⟩ := h
    unfold kvFind at hf
    unfold kvCut
    by_cases hk : k = p.1
    · rw [if_pos hk] at hf ⊢
      simp only [Option.some.injEq, Prod.mk.injEq] at hf
      have : j = 0 := by omega
      subst this
      rw [List.eraseIdx_cons_zero]
      exact h3
    · rw [if_neg hk] at hf ⊢
      cases j with
      | zero =>
        exfalso
        have : ∀ (r : List (List UInt8 × α)) (i q : Nat) (u : α), kvFind k r i = some (q, u) → i ≤ q := by
          intro r
          induction r with
          | nil => intro i q u h; simp [kvFind] at h
          | cons p r ih =>
            intro i q u h
            unfold kvFind at h
            split at h
            · simp only [Option.some.injEq, Prod.mk.injEq] at h; omega
            · have := ih _ _ _ h; omega
        have := this _ _ _ _ hf
        omega
      | succ j =>
        rw [List.eraseIdx_cons_succ, List.map_cons, kv_erase (i := i + 1) (j := j) (u := u) h3 (by rw [hf]; congr 2; omega), h1, h2]
        rfl
theorem kvCut_none {α : Type} {k : List UInt8} : ∀ {m : List (List UInt8 × α)} {i : Nat}, kvFind k m i = none → kvCut k m = m
  | [], _, _ => rfl
  | p :: r, i, h => by
    unfold kvFind at h
    unfold kvCut
    by_cases hk : k = p.1
    · rw [if_pos hk] at h; cases h
    · rw [if_neg hk] at h
      rw [if_neg hk, kvCut_none h]
theorem run_delete {α : Type} {f : α → Value} {t kt et ty : TypeId} {b : Nat} {k : List UInt8} {m : List (List UInt8 × α)} (h : Heap w L) {j : Nat} (hj : L[j]? = some (.map b (kvs f m)))
    (ht : P.underlying t = some (.map kt et)) (hk : P.underlying kt = some .string) :
    ∃ w', (Builtin.delete_ #[t, kt] ty #[.map (some b), .string (bstr k)]).run P w = .ok (.tuple #[]) w' ∧ Ev w L w' (L.set j (.map b (kvs f (kvCut k m)))) := by
  obtain ⟨es, clock, h1, h2, hs⟩ := h.holds j _ hj
  have h3 := MapKept.run_getObj_map (P := P) h1
  cases hf : kvFind k m 0 with
  | none =>
    refine ⟨ChangeMaps.setBlock w b (.map es clock), ?_, ?_⟩
    · simp [Builtin.delete_, run_underlying ht, h3, run_checkStr hk, run_find hk h2, hf, MapKept.run_setObj_map _ h1, Result.andThen, ChangeMaps.setBlock]
    · have := h.setMap (es' := es) (c' := clock) hj h1 hs
      rw [h2] at this
      rw [kvCut_none hf]
      exact this
  | some p =>
    obtain ⟨q, u⟩ := p
    refine ⟨ChangeMaps.setBlock w b (.map (es.eraseIdxIfInBounds q) clock), ?_, ?_⟩
    · simp [Builtin.delete_, run_underlying ht, h3, run_checkStr hk, run_find hk h2, hf, MapKept.run_setObj_map _ h1, Result.andThen, ChangeMaps.setBlock]
    · have := h.setMap (es' := es.eraseIdxIfInBounds q) (c' := clock) hj h1 (MapKept.stamped_erase hs q)
      have e : (es.eraseIdxIfInBounds q).toList = es.toList.eraseIdx q := by
        unfold Array.eraseIdxIfInBounds
        split
        · simp
        · rename_i hq
          rw [List.eraseIdx_of_length_le (by simpa using hq)]
      rw [e, kv_erase (i := 0) (j := q) (u := u) h2 (by rw [hf]; congr 2; omega)] at this
      exact this
theorem op_delete (E : Env a n l) {α : Type} {f : α → Value} {t kt et ty : TypeId} {b j : Nat} {k : List UInt8} {m : List (List UInt8 × α)} (h : opAt ops n i l = some (.run d (nv (Builtin.delete_ #[t, kt] ty #[.map (some b), .string (bstr k)]))))
    (H : Ev w0 L0 w L) (hj : L[j]? = some (.map b (kvs f m))) (ht : P.underlying t = some (.map kt et)) (hk : P.underlying kt = some .string)
    (next : ∀ a' w', Env a' n (putl d (.tuple #[]) l) → Ev w0 L0 w' (L.set j (.map b (kvs f (kvCut k m)))) → K a' w') : wpOp P ops Q i K a w := by
  obtain ⟨w', h1, h2⟩ := run_delete (ty := ty) (k := k) H.heap hj ht hk
  exact any_run E h (run_nv h1) fun a' E' => next a' w' E' (H.trans h2)
end
section
variable {P : Program} {ops : Array Oper} {Q : Exit → Act → World → Prop} {n i : Nat} {l : List (Nat × Value)} {a : Act} {w w0 : World} {d : Option Tmp} {L L0 : List Ent} {K : Act → World → Prop}
/-- an element of an owned slice of structs is stored, whole -/
theorem op_storerec (E : Env a n l) {t : TypeId} {ad A : Addr} {ao : Option Addr} {k cap sz j : Nat} {α : Type} {f : α → List Value} {xs : List α} {y : α} {T : TypeId} {v : Value} (h : opAt ops n i l = some (.run d (nu (Instr.storeAt t (.pointer (some A)) v))))
    (hA : A = ad.add (j * sz)) (H : Ev w0 L0 w L) (hk : L[k]? = some (.vec ao cap sz (xs.flatMap f) T)) (ha : ao = some ad) (hf : ∀ x, (f x).length = sz) (hj : j < xs.length) (hv : v.cells = (f y).toArray) (hs : (fun w => (sizeOf t).run P w) = fun w => .ok sz w) (h1 : ∀ u ∈ f y, u.oneCell' = true)
    (next : ∀ a' w', Env a' n (putl d undef l) → Ev w0 L0 w' (L.set k (.vec ao cap sz ((xs.set j y).flatMap f) T)) → K a' w') : wpOp P ops Q i K a w := by
  subst hA ha
  have hlen := sv_len hf xs
  have hfit : j * sz + (f y).length ≤ (xs.flatMap f).length := by
    rw [hlen, hf, ← Nat.succ_mul]
    exact Nat.mul_le_mul_right _ hj
  obtain ⟨cur, fz, g1, g2, g3, g4, g5⟩ := H.heap.setVecRange (ys := f y) hk hfit
  have hs1 : (sizeOf t).run P w = .ok sz w := congrFun hs w
  have h3 := run_storeCells_fz (P := P) ad.block (ad.off + j * sz) T fz (f y) 0 cur w g1 g3 (by simpa using g2) h1
  simp only [Nat.add_zero] at h3
  have hr : (Instr.storeAt t (.pointer (some (ad.add (j * sz)))) v).run P w = .ok () (w.setRow ad.block (cur.toList.take (ad.off + j * sz) ++ f y ++ cur.toList.drop (ad.off + j * sz + (f y).length)).toArray) := by
    rw [g4, add_off]
    simp only at h3 ⊢
    simp [Instr.storeAt, Instr.sureAddr, storeVar, hv, hs1, hf y, h3]
  have g6 : Ev w L _ _ := g5
  rw [show (f y).length = sz from hf y, flat_put hf y xs j hj] at g6
  rw [show (f y).length = sz from hf y] at hr
  exact any_unit E h (run_nu hr) fun a' E' => next a' _ E' (H.trans g6)
end
end Go.Dbr
