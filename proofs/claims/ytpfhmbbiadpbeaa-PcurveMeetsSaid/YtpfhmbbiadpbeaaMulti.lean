/- Several cells at once: structs and arrays in memory; texts joined. -/
import Derived.Test.YtpfhmbbiadpbeaaBytes
import Derived.Deep.Slices
import Derived.Lib.AppendZeros
namespace Go.Dbr
open Go Go.RowKit

theorem seg_in {s r : List Value} {j : Nat} {v : Value} (hv : s[j]? = some v) : (s ++ r)[j]? = some v := by
  rw [List.getElem?_append_left (List.getElem?_eq_some_iff.1 hv).1, hv]
theorem len_app {s r : List Value} {n m : Nat} (h : s.length = n) (h' : r.length = m) : (s ++ r).length = n + m := by rw [List.length_append, h, h']
theorem one_app {s r : List Value} (h : ∀ u ∈ s, u.oneCell' = true) (h' : ∀ u ∈ r, u.oneCell' = true) : ∀ u ∈ s ++ r, u.oneCell' = true := fun u hu => (List.mem_append.1 hu).elim (h u) (h' u)
theorem one_all {s : List Value} (h : s.all (fun u => u.oneCell') = true) : ∀ u ∈ s, u.oneCell' = true := List.all_eq_true.1 h
theorem load_whole {s : List Value} {n : Nat} (h : s.length = n) : (s.drop 0).take n = s := by rw [List.drop_zero, List.take_of_length_le (by omega)]
theorem store_whole {s xs : List Value} {n : Nat} (h : s.length = n) : s.take 0 ++ xs ++ s.drop (0 + n) = xs := by rw [List.take_zero, List.nil_append, List.drop_eq_nil_of_le (by omega), List.append_nil]
theorem bys_lenh {n : Nat} {l : List UInt8} (h : l.length = n) : (bys l).length = n := by rw [bys_length, h]
theorem u64s_lenh {n : Nat} {l : List UInt64} (h : l.length = n) : (u64s l).length = n := by rw [u64s_length, h]
theorem i64s_lenh {n : Nat} {l : List Int} (h : l.length = n) : (i64s l).length = n := by rw [i64s_length, h]


theorem cutAt_block {a : Option Addr} {c lo sz : Nat} {ad : Addr} (h : cutAt a c lo sz = some ad) : ∃ b, a = some b ∧ b.block = ad.block := by
  unfold cutAt at h
  split at h
  · exact ⟨ad, h, rfl⟩
  · cases a with
    | none => cases h
    | some b => simp only [Option.map_some, Option.some.injEq] at h; exact ⟨b, rfl, by rw [← h, add_block]⟩
theorem Ro.part {w : World} {L : List Ent} {a a' : Option Addr} {xs ys : List Value} (h : Ro w L a xs) (hr : Reads w a' ys) (hb : ∀ ad, a' = some ad → ∃ b, a = some b ∧ b.block = ad.block) (hne : ys ≠ [] → xs ≠ []) : Ro w L a' ys :=
  ⟨hr, fun ad ha hy => by obtain ⟨b, hb1, hb2⟩ := hb ad ha; rw [← hb2]; exact h.off b hb1 (hne hy)⟩
theorem bys_ne {l : List UInt8} : bys l ≠ [] ↔ l ≠ [] := by simp [bys]
theorem InB.take {w : World} {L : List Ent} {a : Option Addr} {c : Nat} {l : List UInt8} (h : InB w L a c l) (n : Nat) : InB w L a c (List.take n l) :=
  ⟨h.ro.part (bys_take_reads h.reads n) (fun ad ha => ⟨ad, ha, rfl⟩) (fun hy => bys_ne.2 fun e => bys_ne.1 hy (by rw [e]; simp)), fun e => by rw [List.length_take, h.nz e]; exact Nat.min_zero _, by have := h.cap; rw [List.length_take]; omega, by have := h.small; rw [List.length_take]; omega⟩
theorem InB.drop {w : World} {L : List Ent} {a : Option Addr} {c : Nat} {l : List UInt8} (h : InB w L a c l) (lo : Nat) (h1 : lo ≤ l.length) : InB w L (cutAt a c lo 1) (c - lo) (List.drop lo l) :=
  ⟨h.ro.part (bys_drop_reads h.reads c lo rfl h1 h.cap) (fun ad ha => cutAt_block ha) (fun hy => bys_ne.2 fun e => bys_ne.1 hy (by rw [e]; simp)), fun e => by have := h.nz (cutAt_none e); rw [List.length_drop]; omega, by have := h.cap; rw [List.length_drop]; omega, by have := h.small; rw [List.length_drop]; omega⟩
theorem InB.cut {w : World} {L : List Ent} {a : Option Addr} {c : Nat} {l : List UInt8} (h : InB w L a c l) (lo hi : Nat) (h1 : lo ≤ hi) (h2 : hi ≤ l.length) : InB w L (cutAt a c lo 1) (c - lo) (List.take (hi - lo) (List.drop lo l)) :=
  (h.drop lo (by omega)).take _
theorem u16s_ne {l : List UInt16} : u16s l ≠ [] ↔ l ≠ [] := by simp [u16s]
theorem InU16.take {w : World} {L : List Ent} {a : Option Addr} {c : Nat} {l : List UInt16} (h : InU16 w L a c l) (n : Nat) : InU16 w L a c (List.take n l) :=
  ⟨h.ro.part (u16s_take_reads h.reads n) (fun ad ha => ⟨ad, ha, rfl⟩) (fun hy => u16s_ne.2 fun e => u16s_ne.1 hy (by rw [e]; simp)), fun e => by rw [List.length_take, h.nz e]; exact Nat.min_zero _, by have := h.cap; rw [List.length_take]; omega, by have := h.small; rw [List.length_take]; omega⟩
theorem InU16.drop {w : World} {L : List Ent} {a : Option Addr} {c : Nat} {l : List UInt16} (h : InU16 w L a c l) (lo : Nat) (h1 : lo ≤ l.length) : InU16 w L (cutAt a c lo 1) (c - lo) (List.drop lo l) :=
  ⟨h.ro.part (u16s_drop_reads h.reads c lo rfl h1 h.cap) (fun ad ha => cutAt_block ha) (fun hy => u16s_ne.2 fun e => u16s_ne.1 hy (by rw [e]; simp)), fun e => by have := h.nz (cutAt_none e); rw [List.length_drop]; omega, by have := h.cap; rw [List.length_drop]; omega, by have := h.small; rw [List.length_drop]; omega⟩
theorem InU16.cut {w : World} {L : List Ent} {a : Option Addr} {c : Nat} {l : List UInt16} (h : InU16 w L a c l) (lo hi : Nat) (h1 : lo ≤ hi) (h2 : hi ≤ l.length) : InU16 w L (cutAt a c lo 1) (c - lo) (List.take (hi - lo) (List.drop lo l)) :=
  (h.drop lo (by omega)).take _
theorem u32s_ne {l : List UInt32} : u32s l ≠ [] ↔ l ≠ [] := by simp [u32s]
theorem InU32.take {w : World} {L : List Ent} {a : Option Addr} {c : Nat} {l : List UInt32} (h : InU32 w L a c l) (n : Nat) : InU32 w L a c (List.take n l) :=
  ⟨h.ro.part (u32s_take_reads h.reads n) (fun ad ha => ⟨ad, ha, rfl⟩) (fun hy => u32s_ne.2 fun e => u32s_ne.1 hy (by rw [e]; simp)), fun e => by rw [List.length_take, h.nz e]; exact Nat.min_zero _, by have := h.cap; rw [List.length_take]; omega, by have := h.small; rw [List.length_take]; omega⟩
theorem InU32.drop {w : World} {L : List Ent} {a : Option Addr} {c : Nat} {l : List UInt32} (h : InU32 w L a c l) (lo : Nat) (h1 : lo ≤ l.length) : InU32 w L (cutAt a c lo 1) (c - lo) (List.drop lo l) :=
  ⟨h.ro.part (u32s_drop_reads h.reads c lo rfl h1 h.cap) (fun ad ha => cutAt_block ha) (fun hy => u32s_ne.2 fun e => u32s_ne.1 hy (by rw [e]; simp)), fun e => by have := h.nz (cutAt_none e); rw [List.length_drop]; omega, by have := h.cap; rw [List.length_drop]; omega, by have := h.small; rw [List.length_drop]; omega⟩
theorem InU32.cut {w : World} {L : List Ent} {a : Option Addr} {c : Nat} {l : List UInt32} (h : InU32 w L a c l) (lo hi : Nat) (h1 : lo ≤ hi) (h2 : hi ≤ l.length) : InU32 w L (cutAt a c lo 1) (c - lo) (List.take (hi - lo) (List.drop lo l)) :=
  (h.drop lo (by omega)).take _
theorem u64s_ne {l : List UInt64} : u64s l ≠ [] ↔ l ≠ [] := by simp [u64s]
theorem InU64.take {w : World} {L : List Ent} {a : Option Addr} {c : Nat} {l : List UInt64} (h : InU64 w L a c l) (n : Nat) : InU64 w L a c (List.take n l) :=
  ⟨h.ro.part (u64s_take_reads h.reads n) (fun ad ha => ⟨ad, ha, rfl⟩) (fun hy => u64s_ne.2 fun e => u64s_ne.1 hy (by rw [e]; simp)), fun e => by rw [List.length_take, h.nz e]; exact Nat.min_zero _, by have := h.cap; rw [List.length_take]; omega, by have := h.small; rw [List.length_take]; omega⟩
theorem InU64.drop {w : World} {L : List Ent} {a : Option Addr} {c : Nat} {l : List UInt64} (h : InU64 w L a c l) (lo : Nat) (h1 : lo ≤ l.length) : InU64 w L (cutAt a c lo 1) (c - lo) (List.drop lo l) :=
  ⟨h.ro.part (u64s_drop_reads h.reads c lo rfl h1 h.cap) (fun ad ha => cutAt_block ha) (fun hy => u64s_ne.2 fun e => u64s_ne.1 hy (by rw [e]; simp)), fun e => by have := h.nz (cutAt_none e); rw [List.length_drop]; omega, by have := h.cap; rw [List.length_drop]; omega, by have := h.small; rw [List.length_drop]; omega⟩
theorem InU64.cut {w : World} {L : List Ent} {a : Option Addr} {c : Nat} {l : List UInt64} (h : InU64 w L a c l) (lo hi : Nat) (h1 : lo ≤ hi) (h2 : hi ≤ l.length) : InU64 w L (cutAt a c lo 1) (c - lo) (List.take (hi - lo) (List.drop lo l)) :=
  (h.drop lo (by omega)).take _
theorem i64s_ne {l : List Int} : i64s l ≠ [] ↔ l ≠ [] := by simp [i64s]
theorem InI64.take {w : World} {L : List Ent} {a : Option Addr} {c : Nat} {l : List Int} (h : InI64 w L a c l) (n : Nat) : InI64 w L a c (List.take n l) :=
  ⟨h.ro.part (i64s_take_reads h.reads n) (fun ad ha => ⟨ad, ha, rfl⟩) (fun hy => i64s_ne.2 fun e => i64s_ne.1 hy (by rw [e]; simp)), fun e => by rw [List.length_take, h.nz e]; exact Nat.min_zero _, by have := h.cap; rw [List.length_take]; omega, by have := h.small; rw [List.length_take]; omega⟩
theorem InI64.drop {w : World} {L : List Ent} {a : Option Addr} {c : Nat} {l : List Int} (h : InI64 w L a c l) (lo : Nat) (h1 : lo ≤ l.length) : InI64 w L (cutAt a c lo 1) (c - lo) (List.drop lo l) :=
  ⟨h.ro.part (i64s_drop_reads h.reads c lo rfl h1 h.cap) (fun ad ha => cutAt_block ha) (fun hy => i64s_ne.2 fun e => i64s_ne.1 hy (by rw [e]; simp)), fun e => by have := h.nz (cutAt_none e); rw [List.length_drop]; omega, by have := h.cap; rw [List.length_drop]; omega, by have := h.small; rw [List.length_drop]; omega⟩
theorem InI64.cut {w : World} {L : List Ent} {a : Option Addr} {c : Nat} {l : List Int} (h : InI64 w L a c l) (lo hi : Nat) (h1 : lo ≤ hi) (h2 : hi ≤ l.length) : InI64 w L (cutAt a c lo 1) (c - lo) (List.take (hi - lo) (List.drop lo l)) :=
  (h.drop lo (by omega)).take _

section
variable {P : Program} {ops : Array Oper} {Q : Exit → Act → World → Prop} {n i : Nat} {l : List (Nat × Value)} {a : Act} {w w0 : World} {d : Option Tmp} {L L0 : List Ent} {K : Act → World → Prop}

theorem run_loadAgg {t : TypeId} {ad : Addr} {cs : List Value} (ht : (fun w => (isAgg t).run P w) = fun w => .ok true w) (hs : (fun w => (sizeOf t).run P w) = fun w => .ok cs.length w) (hc : ∀ j v, cs[j]? = some v → w.cell? (ad.add j) = some v) :
    (Instr.loadAt t (.pointer (some ad))).run P w = .ok (.agg cs.toArray) w := by
  have h1 : (isAgg t).run P w = .ok true w := congrFun ht w
  have h2 : (sizeOf t).run P w = .ok cs.length w := congrFun hs w
  have h3 := run_loadCells_list (P := P) w ad cs hc
  simp [Instr.loadAt, Instr.sureAddr, loadVar, h1, h2, h3]

theorem Heap.cells {k b off m : Nat} {cs xs : List Value} {T : TypeId} (h : Heap w L) (hk : L[k]? = some (.box b cs T)) (hx : (cs.drop off).take m = xs) : ∀ (j : Nat) (v : Value), xs[j]? = some v → w.cell? ((⟨b, off, none⟩ : Addr).add j) = some v := by
  intro j v hv
  rw [add_off]
  refine h.cell hk ?_
  rw [← hx, List.getElem?_take] at hv
  split at hv
  · rwa [List.getElem?_drop] at hv
  · cases hv

theorem Ev.cellAgg {t : TypeId} {b off k m : Nat} {cs xs : List Value} {T : TypeId} (H : Ev w0 L0 w L) (hk : L[k]? = some (.box b cs T)) (hx : (cs.drop off).take m = xs) (hm : xs.length = m) (ht : (fun w => (isAgg t).run P w) = fun w => .ok true w) (hs : (fun w => (sizeOf t).run P w) = fun w => .ok m w) : (loadVar t ⟨b, off, none⟩).run P w = .ok (.agg xs.toArray) w := by
  subst hm
  have h1 : (isAgg t).run P w = .ok true w := congrFun ht w
  have h2 : (sizeOf t).run P w = .ok xs.length w := congrFun hs w
  have h3 := run_loadCells_list (P := P) w ⟨b, off, none⟩ xs (H.heap.cells hk hx)
  simp [loadVar, h1, h2, h3]

/-- a struct, an array of a box is loaded -/
theorem op_loadaggbox (E : Env a n l) {t : TypeId} {b off k m : Nat} {cs xs : List Value} {T : TypeId} (h : opAt ops n i l = some (.run d (nv (Instr.loadAt t (.pointer (some ⟨b, off, none⟩))))))
    (H : Ev w0 L0 w L) (hk : L[k]? = some (.box b cs T)) (hx : (cs.drop off).take m = xs) (hm : xs.length = m) (ht : (fun w => (isAgg t).run P w) = fun w => .ok true w) (hs : (fun w => (sizeOf t).run P w) = fun w => .ok m w)
    (next : ∀ a', Env a' n (putl d (.agg xs.toArray) l) → K a' w) : wpOp P ops Q i K a w := by
  subst hm
  exact op_val E h (run_loadAgg ht hs (H.heap.cells hk hx)) next

theorem Heap.setRange {k b off : Nat} {cs xs : List Value} {T : TypeId} (h : Heap w L) (hk : L[k]? = some (.box b cs T)) :
    Ev w L (w.setRow b (cs.take off ++ xs ++ cs.drop (off + xs.length)).toArray) (L.set k (.box b (cs.take off ++ xs ++ cs.drop (off + xs.length)) T)) := by
  have hh : w.heap[b]? = some (.cells cs.toArray T (0, 0)) := h.holds k _ hk
  exact Ev.change h hk ⟨rfl, rfl, rfl, by simp, fun c hc hne => setRow_other w b c _ (fun e => hne (by simp [Ent.blk, e]))⟩ (setRow_heap w b cs.toArray _ T _ hh) (fun c hc => .inl hc)

theorem run_storeAgg {k b off : Nat} {cs xs : List Value} {T t : TypeId} {v : Value} (hv : v.cells = xs.toArray) (hs : (fun w => (sizeOf t).run P w) = fun w => .ok xs.length w) (h : Heap w L) (hk : L[k]? = some (.box b cs T)) (hl : off + xs.length ≤ cs.length) (h1 : ∀ u ∈ xs, u.oneCell' = true) :
    (Instr.storeAt t (.pointer (some ⟨b, off, none⟩)) v).run P w = .ok () (w.setRow b (cs.take off ++ xs ++ cs.drop (off + xs.length)).toArray) := by
  have hh : w.heap[b]? = some (.cells cs.toArray T (0, 0)) := h.holds k _ hk
  have h2 : (sizeOf t).run P w = .ok xs.length w := congrFun hs w
  have h3 := run_storeCells_at P b off T xs 0 cs.toArray w hh (by simpa using hl) h1
  simp only [Nat.add_zero] at h3
  simp [Instr.storeAt, Instr.sureAddr, storeVar, hv, h2, h3]

/-- a struct, an array is stored -/
theorem op_storeaggbox (E : Env a n l) {t : TypeId} {b off k m : Nat} {cs xs cs' : List Value} {T : TypeId} {v : Value} (h : opAt ops n i l = some (.run d (nu (Instr.storeAt t (.pointer (some ⟨b, off, none⟩)) v))))
    (H : Ev w0 L0 w L) (hk : L[k]? = some (.box b cs T)) (hv : v.cells = xs.toArray) (hm : xs.length = m) (hl : off + m ≤ cs.length) (hs : (fun w => (sizeOf t).run P w) = fun w => .ok m w) (h1 : ∀ u ∈ xs, u.oneCell' = true)
    (hc : cs.take off ++ xs ++ cs.drop (off + m) = cs') {L' : List Ent} (hL : L.set k (.box b cs' T) = L')
    (next : ∀ a' w', Env a' n (putl d undef l) → Ev w0 L0 w' L' → K a' w') : wpOp P ops Q i K a w := by
  subst hm hc hL
  exact any_unit E h (run_nu (run_storeAgg hv hs H.heap hk hl h1)) fun a' E' => next a' _ E' (H.trans (H.heap.setRange hk))

/-- an element of an array that stands in a slot -/
theorem run_indexval {t e : TypeId} {m j : Nat} {k : IntKind} {ix : Int} {cs : List Value} {v : Value} (hu : P.underlying t = some (.array m e)) (hs : (fun w => (sizeOf e).run P w) = fun w => .ok 1 w) (ha : (fun w => (isAgg e).run P w) = fun w => .ok false w) (hj : ix = (j : Int)) (h1 : j < m) (hv : cs[j]? = some v) (w : World) :
    (Instr.index t (.agg cs.toArray) (.int k ix)).run P w = .ok v w := by
  have hs' : (sizeOf e).run P w = .ok 1 w := congrFun hs w
  have ha' : (isAgg e).run P w = .ok false w := congrFun ha w
  subst hj
  have h2 : ((j : Int)) < (m : Int) := by omega
  simp [Instr.index, asIntOf, run_underlying hu, h1, hs', part, ha', hv]

/-- a slice of an array -/
theorem Heap.readsBox {k b off m : Nat} {cs xs : List Value} {T : TypeId} (h : Heap w L) (hk : L[k]? = some (.box b cs T)) (hx : (cs.drop off).take m = xs) : Reads w (some ⟨b, off, none⟩) xs := h.cells hk hx
set_option linter.unusedSimpArgs false in
/-- arr[lo:hi] -/
theorem op_slicearr (E : Env a n l) {t e : TypeId} {sz m lo hi b off : Nat} {lov hiv : Option Value} (h : opAt ops n i l = some (.run d (nv (Instr.sliceAt t (.pointer (some ⟨b, off, none⟩)) lov hiv none))))
    (hu : P.underlying t = some (.array m e)) (hs : (fun w => (sizeOf e).run P w) = fun w => .ok sz w) (h1 : lo ≤ hi) (h2 : hi ≤ m) (h3 : lo < m)
    (hlo : lov = none ∧ lo = 0 ∨ ∃ k, lov = some (.int k lo)) (hhi : hiv = none ∧ hi = m ∨ ∃ k, hiv = some (.int k hi)) {o : Nat} (ho : off + lo * sz = o)
    (next : ∀ a', Env a' n (putl d (.slice (some ⟨b, o, none⟩) (hi - lo) (m - lo)) l) → K a' w) : wpOp P ops Q i K a w := by
  have hs' : (sizeOf e).run P w = .ok sz w := congrFun hs w
  have h4 : ¬ m = lo := by omega
  subst ho
  refine op_val E h (v := .slice (some ⟨b, off + lo * sz, none⟩) (hi - lo) (m - lo)) ?_ next
  rcases hlo with ⟨rfl, rfl⟩ | ⟨k, rfl⟩ <;> rcases hhi with ⟨rfl, rfl⟩ | ⟨k', rfl⟩ <;>
    simp [Instr.sliceAt, Instr.sureAddr, Instr.sliceBounds, Instr.sliceBound, run_underlying hu, asIntOf, hs', h1, h2, h4, add_off] <;> omega

end
end Go.Dbr
