/- Several cells at once: structs and arrays in memory; texts joined. -/
import Derived.Test.YtfcfgbejpcmmkaaDoorBytes
import Derived.Deep.Slices
import Derived.Lib.AppendZeros
namespace Go.Dbr
open Go Go.RowKit

theorem seg_in {s r : List Value} {j : Nat} {v : Value} (hv : s[j]? = some v) : (s ++ r)[j]? = some v := by
  rw [List.getElem?_append_left (List.getElem?_eq_some_iff.1 hv).1, hv]
theorem seg_skip {s r : List Value} {n j : Nat} {v : Value} (h : s.length = n) (hv : r[j]? = some v) : (s ++ r)[n + j]? = some v := by
  rw [List.getElem?_append_right (by omega), h, Nat.add_sub_cancel_left, hv]
theorem set_in {s r : List Value} {j : Nat} {v : Value} (hj : j < s.length) : (s ++ r).set j v = s.set j v ++ r := by
  rw [List.set_append, if_pos hj]
theorem set_skip {s r : List Value} {n j : Nat} {v : Value} (h : s.length = n) : (s ++ r).set (n + j) v = s ++ r.set j v := by
  rw [List.set_append, if_neg (by omega), h, Nat.add_sub_cancel_left]

theorem len_app {s r : List Value} {n m : Nat} (h : s.length = n) (h' : r.length = m) : (s ++ r).length = n + m := by rw [List.length_append, h, h']
theorem one_app {s r : List Value} (h : ∀ u ∈ s, u.oneCell' = true) (h' : ∀ u ∈ r, u.oneCell' = true) : ∀ u ∈ s ++ r, u.oneCell' = true := fun u hu => (List.mem_append.1 hu).elim (h u) (h' u)
theorem one_all {s : List Value} (h : s.all (fun u => u.oneCell') = true) : ∀ u ∈ s, u.oneCell' = true := List.all_eq_true.1 h
theorem load_whole {s : List Value} {n : Nat} (h : s.length = n) : (s.drop 0).take n = s := by rw [List.drop_zero, List.take_of_length_le (by omega)]
theorem store_whole {s xs : List Value} {n : Nat} (h : s.length = n) : s.take 0 ++ xs ++ s.drop (0 + n) = xs := by rw [List.take_zero, List.nil_append, List.drop_eq_nil_of_le (by omega), List.append_nil]
theorem bys_lenh {n : Nat} {l : List UInt8} (h : l.length = n) : (bys l).length = n := by rw [bys_length, h]
theorem u16s_lenh {n : Nat} {l : List UInt16} (h : l.length = n) : (u16s l).length = n := by rw [u16s_length, h]
theorem u32s_lenh {n : Nat} {l : List UInt32} (h : l.length = n) : (u32s l).length = n := by rw [u32s_length, h]
theorem u64s_lenh {n : Nat} {l : List UInt64} (h : l.length = n) : (u64s l).length = n := by rw [u64s_length, h]
theorem i64s_lenh {n : Nat} {l : List Int} (h : l.length = n) : (i64s l).length = n := by rw [i64s_length, h]


theorem cutAt_block {a : Option Addr} {c lo sz : Nat} {ad : Addr} (h : cutAt a c lo sz = some ad) : ∃ b, a = some b ∧ b.block = ad.block := by
  unfold cutAt at h
  split at h
  · exact ⟨ad, h, rfl⟩
  · cases a with
    | none => cases h
    | some b => simp only [Option.map_some, Option.some.injEq] at h; exact ⟨b, rfl, by rw [← h, add_block]⟩
theorem Ro.part {w : World} {L : List Ent} {a a' : Option Addr} {xs ys : List Value} (h : Ro w L a xs) (hr : Reads w a' ys) (hb : ∀ ad, a' = some ad → ∃ b, a = some b ∧ b.block = ad.block) (hne : ys ≠ [] → xs ≠ []) : Ro w L a' ys :=
  ⟨hr, fun ad ha hy => by obtain ⟨b, hb1, hb2⟩ := hb ad ha; rw [← hb2]; exact h.off b hb1 (hne hy)⟩
theorem bys_ne {l : List UInt8} : bys l ≠ [] ↔ l ≠ [] := by simp [bys]
theorem InB.take {w : World} {L : List Ent} {a : Option Addr} {c : Nat} {l : List UInt8} (h : InB w L a c l) (n : Nat) : InB w L a c (List.take n l) :=
  ⟨h.ro.part (bys_take_reads h.reads n) (fun ad ha => ⟨ad, ha, rfl⟩) (fun hy => bys_ne.2 fun e => bys_ne.1 hy (by rw [e]; simp)), fun e => by rw [List.length_take, h.nz e]; exact Nat.min_zero _, by have := h.cap; rw [List.length_take]; omega, by have := h.small; rw [List.length_take]; omega⟩
theorem bys_in_take {w : World} {L M : List Ent} (h : Heap w L) {k : Nat} {a : Option Addr} {cap : Nat} {l : List UInt8} {T : TypeId} (hk : L[k]? = some (.vec a cap 1 (bys l) T))
    (is : List Nat) (hm : M.map some = is.map (fun i => L[i]?)) (hn : is.contains k = false) (n : Nat) (hs : n ≤ 140737489403904) : InB w M a cap (List.take n l) :=
  have ro := h.ro hk is hm hn
  ⟨ro.part (bys_take_reads ro.reads n) (fun ad ha => ⟨ad, ha, rfl⟩) (fun hy => bys_ne.2 fun e => bys_ne.1 hy (by rw [e]; simp)), fun e => by rw [List.length_take, bys_vnz h hk e]; exact Nat.min_zero _, by have := bys_vcap h hk; rw [List.length_take]; omega, by rw [List.length_take]; omega⟩
theorem InB.drop {w : World} {L : List Ent} {a : Option Addr} {c : Nat} {l : List UInt8} (h : InB w L a c l) (lo : Nat) (h1 : lo ≤ l.length) : InB w L (cutAt a c lo 1) (c - lo) (List.drop lo l) :=
  ⟨h.ro.part (bys_drop_reads h.reads c lo rfl h1 h.cap) (fun ad ha => cutAt_block ha) (fun hy => bys_ne.2 fun e => bys_ne.1 hy (by rw [e]; simp)), fun e => by have := h.nz (cutAt_none e); rw [List.length_drop]; omega, by have := h.cap; rw [List.length_drop]; omega, by have := h.small; rw [List.length_drop]; omega⟩
theorem InB.cut {w : World} {L : List Ent} {a : Option Addr} {c : Nat} {l : List UInt8} (h : InB w L a c l) (lo hi : Nat) (h1 : lo ≤ hi) (h2 : hi ≤ l.length) : InB w L (cutAt a c lo 1) (c - lo) (List.take (hi - lo) (List.drop lo l)) :=
  (h.drop lo (by omega)).take _
theorem u16s_ne {l : List UInt16} : u16s l ≠ [] ↔ l ≠ [] := by simp [u16s]
theorem InU16.take {w : World} {L : List Ent} {a : Option Addr} {c : Nat} {l : List UInt16} (h : InU16 w L a c l) (n : Nat) : InU16 w L a c (List.take n l) :=
  ⟨h.ro.part (u16s_take_reads h.reads n) (fun ad ha => ⟨ad, ha, rfl⟩) (fun hy => u16s_ne.2 fun e => u16s_ne.1 hy (by rw [e]; simp)), fun e => by rw [List.length_take, h.nz e]; exact Nat.min_zero _, by have := h.cap; rw [List.length_take]; omega, by have := h.small; rw [List.length_take]; omega⟩
theorem InU16.drop {w : World} {L : List Ent} {a : Option Addr} {c : Nat} {l : List UInt16} (h : InU16 w L a c l) (lo : Nat) (h1 : lo ≤ l.length) : InU16 w L (cutAt a c lo 1) (c - lo) (List.drop lo l) :=
  ⟨h.ro.part (u16s_drop_reads h.reads c lo rfl h1 h.cap) (fun ad ha => cutAt_block ha) (fun hy => u16s_ne.2 fun e => u16s_ne.1 hy (by rw [e]; simp)), fun e => by have := h.nz (cutAt_none e); rw [List.length_drop]; omega, by have := h.cap; rw [List.length_drop]; omega, by have := h.small; rw [List.length_drop]; omega⟩
theorem InU16.cut {w : World} {L : List Ent} {a : Option Addr} {c : Nat} {l : List UInt16} (h : InU16 w L a c l) (lo hi : Nat) (h1 : lo ≤ hi) (h2 : hi ≤ l.length) : InU16 w L (cutAt a c lo 1) (c - lo) (List.take (hi - lo) (List.drop lo l)) :=
  (h.drop lo (by omega)).take _
theorem u32s_ne {l : List UInt32} : u32s l ≠ [] ↔ l ≠ [] := by simp [u32s]
theorem InU32.take {w : World} {L : List Ent} {a : Option Addr} {c : Nat} {l : List UInt32} (h : InU32 w L a c l) (n : Nat) : InU32 w L a c (List.take n l) :=
  ⟨h.ro.part (u32s_take_reads h.reads n) (fun ad ha => ⟨ad, ha, rfl⟩) (fun hy => u32s_ne.2 fun e => u32s_ne.1 hy (by rw [e]; simp)), fun e => by rw [List.length_take, h.nz e]; exact Nat.min_zero _, by have := h.cap; rw [List.length_take]; omega, by have := h.small; rw [List.length_take]; omega⟩
theorem InU32.drop {w : World} {L : List Ent} {a : Option Addr} {c : Nat} {l : List UInt32} (h : InU32 w L a c l) (lo : Nat) (h1 : lo ≤ l.length) : InU32 w L (cutAt a c lo 1) (c - lo) (List.drop lo l) :=
  ⟨h.ro.part (u32s_drop_reads h.reads c lo rfl h1 h.cap) (fun ad ha => cutAt_block ha) (fun hy => u32s_ne.2 fun e => u32s_ne.1 hy (by rw [e]; simp)), fun e => by have := h.nz (cutAt_none e); rw [List.length_drop]; omega, by have := h.cap; rw [List.length_drop]; omega, by have := h.small; rw [List.length_drop]; omega⟩
theorem InU32.cut {w : World} {L : List Ent} {a : Option Addr} {c : Nat} {l : List UInt32} (h : InU32 w L a c l) (lo hi : Nat) (h1 : lo ≤ hi) (h2 : hi ≤ l.length) : InU32 w L (cutAt a c lo 1) (c - lo) (List.take (hi - lo) (List.drop lo l)) :=
  (h.drop lo (by omega)).take _
theorem u64s_ne {l : List UInt64} : u64s l ≠ [] ↔ l ≠ [] := by simp [u64s]
theorem InU64.take {w : World} {L : List Ent} {a : Option Addr} {c : Nat} {l : List UInt64} (h : InU64 w L a c l) (n : Nat) : InU64 w L a c (List.take n l) :=
  ⟨h.ro.part (u64s_take_reads h.reads n) (fun ad ha => ⟨ad, ha, rfl⟩) (fun hy => u64s_ne.2 fun e => u64s_ne.1 hy (by rw [e]; simp)), fun e => by rw [List.length_take, h.nz e]; exact Nat.min_zero _, by have := h.cap; rw [List.length_take]; omega, by have := h.small; rw [List.length_take]; omega⟩
theorem InU64.drop {w : World} {L : List Ent} {a : Option Addr} {c : Nat} {l : List UInt64} (h : InU64 w L a c l) (lo : Nat) (h1 : lo ≤ l.length) : InU64 w L (cutAt a c lo 1) (c - lo) (List.drop lo l) :=
  ⟨h.ro.part (u64s_drop_reads h.reads c lo rfl h1 h.cap) (fun ad ha => cutAt_block ha) (fun hy => u64s_ne.2 fun e => u64s_ne.1 hy (by rw [e]; simp)), fun e => by have := h.nz (cutAt_none e); rw [List.length_drop]; omega, by have := h.cap; rw [List.length_drop]; omega, by have := h.small; rw [List.length_drop]; omega⟩
theorem InU64.cut {w : World} {L : List Ent} {a : Option Addr} {c : Nat} {l : List UInt64} (h : InU64 w L a c l) (lo hi : Nat) (h1 : lo ≤ hi) (h2 : hi ≤ l.length) : InU64 w L (cutAt a c lo 1) (c - lo) (List.take (hi - lo) (List.drop lo l)) :=
  (h.drop lo (by omega)).take _
theorem i64s_ne {l : List Int} : i64s l ≠ [] ↔ l ≠ [] := by simp [i64s]
theorem InI64.take {w : World} {L : List Ent} {a : Option Addr} {c : Nat} {l : List Int} (h : InI64 w L a c l) (n : Nat) : InI64 w L a c (List.take n l) :=
  ⟨h.ro.part (i64s_take_reads h.reads n) (fun ad ha => ⟨ad, ha, rfl⟩) (fun hy => i64s_ne.2 fun e => i64s_ne.1 hy (by rw [e]; simp)), fun e => by rw [List.length_take, h.nz e]; exact Nat.min_zero _, by have := h.cap; rw [List.length_take]; omega, by have := h.small; rw [List.length_take]; omega⟩
theorem InI64.drop {w : World} {L : List Ent} {a : Option Addr} {c : Nat} {l : List Int} (h : InI64 w L a c l) (lo : Nat) (h1 : lo ≤ l.length) : InI64 w L (cutAt a c lo 1) (c - lo) (List.drop lo l) :=
  ⟨h.ro.part (i64s_drop_reads h.reads c lo rfl h1 h.cap) (fun ad ha => cutAt_block ha) (fun hy => i64s_ne.2 fun e => i64s_ne.1 hy (by rw [e]; simp)), fun e => by have := h.nz (cutAt_none e); rw [List.length_drop]; omega, by have := h.cap; rw [List.length_drop]; omega, by have := h.small; rw [List.length_drop]; omega⟩
theorem InI64.cut {w : World} {L : List Ent} {a : Option Addr} {c : Nat} {l : List Int} (h : InI64 w L a c l) (lo hi : Nat) (h1 : lo ≤ hi) (h2 : hi ≤ l.length) : InI64 w L (cutAt a c lo 1) (c - lo) (List.take (hi - lo) (List.drop lo l)) :=
  (h.drop lo (by omega)).take _

theorem List.set_getElem?_self {α : Type} {l : List α} {k : Nat} {x : α} (h : l[k]? = some x) : l.set k x = l := by
  apply List.ext_getElem?
  intro j
  by_cases hj : j = k
  · subst hj; rw [List.getElem?_set_self (List.getElem?_eq_some_iff.1 h).1, h]
  · rw [List.getElem?_set_ne (Ne.symm hj)]

section
variable {P : Program} {ops : Array Oper} {Q : Exit → Act → World → Prop} {n i : Nat} {l : List (Nat × Value)} {a : Act} {w w0 : World} {d : Option Tmp} {L L0 : List Ent} {K : Act → World → Prop}

theorem run_loadAgg {t : TypeId} {ad : Addr} {cs : List Value} (ht : (fun w => (isAgg t).run P w) = fun w => .ok true w) (hs : (fun w => (sizeOf t).run P w) = fun w => .ok cs.length w) (hc : ∀ j v, cs[j]? = some v → w.cell? (ad.add j) = some v) :
    (Instr.loadAt t (.pointer (some ad))).run P w = .ok (.agg cs.toArray) w := by
  have h1 : (isAgg t).run P w = .ok true w := congrFun ht w
  have h2 : (sizeOf t).run P w = .ok cs.length w := congrFun hs w
  have h3 := run_loadCells_list (P := P) w ad cs hc
  simp [Instr.loadAt, Instr.sureAddr, loadVar, h1, h2, h3]

theorem Heap.cells {k b off m : Nat} {cs xs : List Value} {T : TypeId} (h : Heap w L) (hk : L[k]? = some (.box b cs T)) (hx : (cs.drop off).take m = xs) : ∀ (j : Nat) (v : Value), xs[j]? = some v → w.cell? ((⟨b, off, none⟩ : Addr).add j) = some v := by
  intro j v hv
  rw [add_off]
  refine h.cell hk ?_
  rw [← hx, List.getElem?_take] at hv
  split at hv
  · rwa [List.getElem?_drop] at hv
  · cases hv

theorem Ev.cellVal {t : TypeId} {b off k : Nat} {cs : List Value} {T : TypeId} {v : Value} (H : Ev w0 L0 w L) (hk : L[k]? = some (.box b cs T)) (hv : cs[off]? = some v) (ht : (fun w => (isAgg t).run P w) = fun w => .ok false w) : (loadVar t ⟨b, off, none⟩).run P w = .ok v w := by
  have h1 : (isAgg t).run P w = .ok false w := congrFun ht w
  simp [loadVar, h1, H.heap.cell hk hv]
theorem Ev.cellAgg {t : TypeId} {b off k m : Nat} {cs xs : List Value} {T : TypeId} (H : Ev w0 L0 w L) (hk : L[k]? = some (.box b cs T)) (hx : (cs.drop off).take m = xs) (hm : xs.length = m) (ht : (fun w => (isAgg t).run P w) = fun w => .ok true w) (hs : (fun w => (sizeOf t).run P w) = fun w => .ok m w) : (loadVar t ⟨b, off, none⟩).run P w = .ok (.agg xs.toArray) w := by
  subst hm
  have h1 : (isAgg t).run P w = .ok true w := congrFun ht w
  have h2 : (sizeOf t).run P w = .ok xs.length w := congrFun hs w
  have h3 := run_loadCells_list (P := P) w ⟨b, off, none⟩ xs (H.heap.cells hk hx)
  simp [loadVar, h1, h2, h3]

/-- a struct, an array of a box is loaded -/
theorem op_loadaggbox (E : Env a n l) {t : TypeId} {b off k m : Nat} {cs xs : List Value} {T : TypeId} (h : opAt ops n i l = some (.run d (nv (Instr.loadAt t (.pointer (some ⟨b, off, none⟩))))))
    (H : Ev w0 L0 w L) (hk : L[k]? = some (.box b cs T)) (hx : (cs.drop off).take m = xs) (hm : xs.length = m) (ht : (fun w => (isAgg t).run P w) = fun w => .ok true w) (hs : (fun w => (sizeOf t).run P w) = fun w => .ok m w)
    (next : ∀ a', Env a' n (putl d (.agg xs.toArray) l) → K a' w) : wpOp P ops Q i K a w := by
  subst hm
  exact op_val E h (run_loadAgg ht hs (H.heap.cells hk hx)) next

/-- .. of elements -/
theorem op_loadaggat (E : Env a n l) {t : TypeId} {ad A : Addr} {ao : Option Addr} {o m : Nat} {ys xs : List Value} (h : opAt ops n i l = some (.run d (nv (Instr.loadAt t (.pointer (some A))))))
    (hA : A = ad.add o) (hr : Reads w ao ys) (ha : ao = some ad) (hx : ∀ j, j < m → ys[o + j]? = xs[j]?) (hm : xs.length = m) (ht : (fun w => (isAgg t).run P w) = fun w => .ok true w) (hs : (fun w => (sizeOf t).run P w) = fun w => .ok m w)
    (next : ∀ a', Env a' n (putl d (.agg xs.toArray) l) → K a' w) : wpOp P ops Q i K a w := by
  subst hA ha hm
  refine op_val E h (run_loadAgg ht hs fun j v hv => ?_) next
  rw [Deep.add_add]
  exact hr (o + j) v (by rw [hx j (List.getElem?_eq_some_iff.1 hv).1, hv])

/-- a cell of an element -/
theorem op_loadf (E : Env a n l) {t : TypeId} {ad A : Addr} {ao : Option Addr} {ys : List Value} {o : Nat} {v : Value} (h : opAt ops n i l = some (.run d (nv (Instr.loadAt t (.pointer (some A))))))
    (hA : A = ad.add o) (hr : Reads w ao ys) (ha : ao = some ad) (hv : ys[o]? = some v) (ht : (fun w => (isAgg t).run P w) = fun w => .ok false w) (next : ∀ a', Env a' n (putl d v l) → K a' w) : wpOp P ops Q i K a w := by
  subst hA ha
  exact op_load E h (hr o v hv) ht next

theorem Heap.setRange {k b off : Nat} {cs xs : List Value} {T : TypeId} (h : Heap w L) (hk : L[k]? = some (.box b cs T)) :
    Ev w L (w.setRow b (cs.take off ++ xs ++ cs.drop (off + xs.length)).toArray) (L.set k (.box b (cs.take off ++ xs ++ cs.drop (off + xs.length)) T)) := by
  have hh : w.heap[b]? = some (.cells cs.toArray T (0, 0)) := h.holds k _ hk
  exact Ev.change h hk ⟨rfl, rfl, rfl, by simp, fun c hc hne => setRow_other w b c _ (fun e => hne (by simp [Ent.own, e]))⟩ (setRow_heap w b cs.toArray _ T _ hh) (fun c hc => .inl hc)

theorem run_storeAgg {k b off : Nat} {cs xs : List Value} {T t : TypeId} {v : Value} (hv : v.cells = xs.toArray) (hs : (fun w => (sizeOf t).run P w) = fun w => .ok xs.length w) (h : Heap w L) (hk : L[k]? = some (.box b cs T)) (hl : off + xs.length ≤ cs.length) (h1 : ∀ u ∈ xs, u.oneCell' = true) :
    (Instr.storeAt t (.pointer (some ⟨b, off, none⟩)) v).run P w = .ok () (w.setRow b (cs.take off ++ xs ++ cs.drop (off + xs.length)).toArray) := by
  have hh : w.heap[b]? = some (.cells cs.toArray T (0, 0)) := h.holds k _ hk
  have h2 : (sizeOf t).run P w = .ok xs.length w := congrFun hs w
  have h3 := run_storeCells_at P b off T xs 0 cs.toArray w hh (by simpa using hl) h1
  simp only [Nat.add_zero] at h3
  simp [Instr.storeAt, Instr.sureAddr, storeVar, hv, h2, h3]

theorem op_storebox2 (E : Env a n l) {t : TypeId} {b off k : Nat} {cs cs' : List Value} {T : TypeId} {v old : Value} (h : opAt ops n i l = some (.run d (nu (Instr.storeAt t (.pointer (some ⟨b, off, none⟩)) v))))
    (H : Ev w0 L0 w L) (hk : L[k]? = some (.box b cs T)) (ho : cs[off]? = some old) (hs : (fun w => (sizeOf t).run P w) = fun w => .ok 1 w) (hv : v.oneCell' = true) (hc : cs.set off v = cs') {L' : List Ent} (hL : L.set k (.box b cs' T) = L')
    (next : ∀ a' w', Env a' n (putl d undef l) → Ev w0 L0 w' L' → K a' w') : wpOp P ops Q i K a w := by
  subst hc
  exact op_storebox E h H hk ho hs hv hL next

/-- a struct, an array is stored -/
theorem op_storeaggbox (E : Env a n l) {t : TypeId} {b off k m : Nat} {cs xs cs' : List Value} {T : TypeId} {v : Value} (h : opAt ops n i l = some (.run d (nu (Instr.storeAt t (.pointer (some ⟨b, off, none⟩)) v))))
    (H : Ev w0 L0 w L) (hk : L[k]? = some (.box b cs T)) (hv : v.cells = xs.toArray) (hm : xs.length = m) (hl : off + m ≤ cs.length) (hs : (fun w => (sizeOf t).run P w) = fun w => .ok m w) (h1 : ∀ u ∈ xs, u.oneCell' = true)
    (hc : cs.take off ++ xs ++ cs.drop (off + m) = cs') {L' : List Ent} (hL : L.set k (.box b cs' T) = L')
    (next : ∀ a' w', Env a' n (putl d undef l) → Ev w0 L0 w' L' → K a' w') : wpOp P ops Q i K a w := by
  subst hm hc hL
  exact any_unit E h (run_nu (run_storeAgg hv hs H.heap hk hl h1)) fun a' E' => next a' _ E' (H.trans (H.heap.setRange hk))

/-- an element's cell of an owned slice is stored -/
theorem op_storef (E : Env a n l) {t : TypeId} {ad A : Addr} {ao : Option Addr} {k cap sz o : Nat} {xs : List Value} {T : TypeId} {v : Value} (h : opAt ops n i l = some (.run d (nu (Instr.storeAt t (.pointer (some A)) v))))
    (hA : A = ad.add o) (H : Ev w0 L0 w L) (hk : L[k]? = some (.vec ao cap sz xs T)) (ha : ao = some ad) (hj : o < xs.length) (hs : (fun w => (sizeOf t).run P w) = fun w => .ok 1 w) (hv : v.oneCell' = true)
    (next : ∀ a' w', Env a' n (putl d undef l) → Ev w0 L0 w' (L.set k (.vec ao cap sz (xs.set o v) T)) → K a' w') : wpOp P ops Q i K a w := by
  subst hA ha
  exact any_unit E h (run_nu (run_storeel hs H.heap hk hj hv)) fun a' E' => next a' _ E' (H.trans (H.heap.setVec v hk hj))

theorem run_add_str (x y : List UInt8) (h : x.length + y.length ≤ 9223372036854775807) (w : World) : (Op.stringOp .add (bstr x) (bstr y)).run P w = .ok (.string (bstr (x ++ y))) w := by
  have h1 : ¬ (((bstr x).size + (bstr y).size : Nat) : Int) > IntKind.i64.max := by
    rw [bstr_size, bstr_size]
    simp only [IntKind.max, IntKind.signed, IntKind.bits]
    simp
    omega
  simp only [Op.stringOp, if_neg h1, Sem.run_pure, bstr_append]

/-- the address of an element of an array -/
theorem op_indexarr (E : Env a n l) {t e : TypeId} {sz m j b off o : Nat} {k : IntKind} {ix : Int} (h : opAt ops n i l = some (.run d (nv (Instr.indexAt t (.pointer (some ⟨b, off, none⟩)) (.int k ix)))))
    (hu : P.underlying t = some (.array m e)) (hs : (fun w => (sizeOf e).run P w) = fun w => .ok sz w) (hj : ix = (j : Int)) (h1 : j < m) (ho : off + j * sz = o)
    (next : ∀ a', Env a' n (putl d (.pointer (some ⟨b, o, none⟩)) l) → K a' w) : wpOp P ops Q i K a w := by
  have hs' : (sizeOf e).run P w = .ok sz w := congrFun hs w
  subst ho hj
  refine op_val E h (v := .pointer (some ⟨b, off + j * sz, none⟩)) ?_ next
  have h2 : ((j : Int)) < (m : Int) := by omega
  have h3 : (0 : Int) ≤ (j : Int) := by omega
  simp [Instr.indexAt, asIntOf, run_underlying hu, Instr.sureAddr, h1, hs', add_off]

/-- an element of an array that stands in a slot -/
theorem run_indexval {t e : TypeId} {m j : Nat} {k : IntKind} {ix : Int} {cs : List Value} {v : Value} (hu : P.underlying t = some (.array m e)) (hs : (fun w => (sizeOf e).run P w) = fun w => .ok 1 w) (ha : (fun w => (isAgg e).run P w) = fun w => .ok false w) (hj : ix = (j : Int)) (h1 : j < m) (hv : cs[j]? = some v) (w : World) :
    (Instr.index t (.agg cs.toArray) (.int k ix)).run P w = .ok v w := by
  have hs' : (sizeOf e).run P w = .ok 1 w := congrFun hs w
  have ha' : (isAgg e).run P w = .ok false w := congrFun ha w
  subst hj
  have h2 : ((j : Int)) < (m : Int) := by omega
  simp [Instr.index, asIntOf, run_underlying hu, h1, hs', part, ha', hv]

/-- a slice of an array -/
theorem Heap.readsBox {k b off m : Nat} {cs xs : List Value} {T : TypeId} (h : Heap w L) (hk : L[k]? = some (.box b cs T)) (hx : (cs.drop off).take m = xs) : Reads w (some ⟨b, off, none⟩) xs := h.cells hk hx
theorem Heap.roBox {M : List Ent} {k b off m : Nat} {cs xs : List Value} {T : TypeId} (h : Heap w L) (hk : L[k]? = some (.box b cs T)) (hx : (cs.drop off).take m = xs) (is : List Nat) (hm : M.map some = is.map (fun i => L[i]?)) (hn : is.contains k = false) : Ro w M (some ⟨b, off, none⟩) xs := by
  refine ⟨h.cells hk hx, fun ad ha _ ho => ?_⟩
  obtain ⟨j, e, hj, he⟩ := ho
  simp only [Option.some.injEq] at ha
  subst ha
  have h1 : (M.map some)[j]? = some (some e) := by simp [hj]
  rw [hm, List.getElem?_map] at h1
  cases hi : is[j]? with
  | none => simp [hi] at h1
  | some i =>
    have h2 : L[i]? = some e := by simpa [hi] using h1
    have := h.sep k i _ e b hk h2 rfl he
    subst this
    have := List.contains_iff_mem.2 (List.mem_of_getElem? hi)
    rw [hn] at this
    cases this

set_option linter.unusedSimpArgs false in
/-- arr[lo:hi] -/
theorem op_slicearr (E : Env a n l) {t e : TypeId} {sz m lo hi b off : Nat} {lov hiv : Option Value} (h : opAt ops n i l = some (.run d (nv (Instr.sliceAt t (.pointer (some ⟨b, off, none⟩)) lov hiv none))))
    (hu : P.underlying t = some (.array m e)) (hs : (fun w => (sizeOf e).run P w) = fun w => .ok sz w) (h1 : lo ≤ hi) (h2 : hi ≤ m) (h3 : lo < m)
    (hlo : lov = none ∧ lo = 0 ∨ ∃ k, lov = some (.int k lo)) (hhi : hiv = none ∧ hi = m ∨ ∃ k, hiv = some (.int k hi)) {o : Nat} (ho : off + lo * sz = o)
    (next : ∀ a', Env a' n (putl d (.slice (some ⟨b, o, none⟩) (hi - lo) (m - lo)) l) → K a' w) : wpOp P ops Q i K a w := by
  have hs' : (sizeOf e).run P w = .ok sz w := congrFun hs w
  have h4 : ¬ m = lo := by omega
  subst ho
  refine op_val E h (v := .slice (some ⟨b, off + lo * sz, none⟩) (hi - lo) (m - lo)) ?_ next
  rcases hlo with ⟨rfl, rfl⟩ | ⟨k, rfl⟩ <;> rcases hhi with ⟨rfl, rfl⟩ | ⟨k', rfl⟩ <;>
    simp [Instr.sliceAt, Instr.sureAddr, Instr.sliceBounds, Instr.sliceBound, run_underlying hu, asIntOf, hs', h1, h2, h4, add_off] <;> omega

theorem zeroCells_one {z : Value} (m : Nat) (hz : z.cells = #[z]) : Builtin.zeroCells z.cells m = (List.replicate m z).toArray := by
  rw [hz]
  apply Array.ext_getElem?
  intro j
  unfold Builtin.zeroCells
  simp only [Array.getElem?_map, List.getElem?_toArray, List.getElem?_replicate]
  by_cases h : j < m
  · rw [if_pos h, Array.getElem?_eq_getElem (by simpa using h)]
    simp [Nat.mod_one]
  · rw [if_neg h, Array.getElem?_eq_none (by simpa using h)]
    rfl

/-- append(nil, make([]T, m)...) -/
theorem op_growzero (E : Env a n l) {t tn ty T m : Nat} {ik kn : IntKind} {z : Value} {bytes : Nat} (h : opAt ops n i l = some (.run d (appendOf t tn ty (.slice none 0 0) (.int ik ((m : Nat) : Int))))) (H : Ev w0 L0 w L)
    (ht : P.underlying t = some (.slice T)) (htn : P.underlying tn = some (.int kn)) (hti : (P.info? T).map (fun i => (i.zero, i.size, i.bytes)) = some (some z, 1, bytes)) (hz : z.cells = #[z]) (h0 : 0 < m) (hb : m * bytes ≤ 140737488355328) (h63 : m ≤ maxLen)
    (next : ∀ a' w' ao' cap', Env a' n (putl d (.slice ao' m cap') l) → Ev w0 L0 w' (L ++ [.vec ao' cap' 1 (List.replicate m z) T]) → m ≤ cap' → K a' w') : wpOp P ops Q i K a w := by
  obtain ⟨ti, hi, hz', hsz, hby⟩ : ∃ ti, P.info? T = some ti ∧ ti.zero = some z ∧ ti.size = 1 ∧ ti.bytes = bytes := by
    cases hi : P.info? T with
    | none => simp [hi] at hti
    | some ti => simp only [hi, Option.map_some, Option.some.injEq, Prod.mk.injEq] at hti; exact ⟨ti, rfl, hti.1, hti.2.1, hti.2.2⟩
  subst hby
  have hr := Lib.run_append_nil_zeros (P := P) w t tn ty T ti z ik kn ht htn hi hz' m h0 (by omega) (by simp only [maxLen] at h63; omega) (by omega)
  have hge := grownCap_ge w m 0 T
  have hcm := grownCap_le_maxLen w m 0 T h63
  refine any_run E h (run_nv hr) fun a' E' => next a' _ _ _ E' (H.trans (Ev.add H.heap ⟨rfl, rfl, rfl, by simp, fun b hb _ => Below.heap_alloc w.drew _ b hb⟩ ⟨rfl, hcm, by simpa using hge, _, (0, 0), heap_alloc_new w.drew _, .inl rfl, ?_, fun j hj => ?_⟩ (fun b hb => ?_))) hge
  · rw [zeroCells_one _ hz, zeroCells_one _ hz]
    simp
    omega
  · rw [zeroCells_one _ hz, Nat.zero_add, Array.getElem?_append_left (by simpa using hj), List.getElem?_toArray]
  · simp only [Ent.own, Option.map_some, Option.some.injEq] at hb
    have : w.drew.heap.size = w.heap.size := rfl
    omega

/-- []byte("..") of a constant: the row gets the mark of bytes that a string shares: behind its last cell -/
theorem op_marked (E : Env a n l) {t e : TypeId} {k cap m : Nat} {ad : Addr} {xs : List Value} {T : TypeId} (h : opAt ops n i l = some (.run d (nv (convert t t (.slice (some ad) m cap))))) (ht : P.underlying t = some (.slice e)) (he : P.underlying e = some (.int .u8))
    (H : Ev w0 L0 w L) (hk : L[k]? = some (.vec (some ad) cap 1 xs T))
    (next : ∀ a' w', Env a' n (putl d (.slice (some ad) m cap) l) → Ev w0 L0 w' L → K a' w') : wpOp P ops Q i K a w := by
  obtain ⟨h1, h2, h3, cur, fz, h4, hfz, h5, h6⟩ := H.heap.holds k _ hk
  have hsh : w.shape? ad.block = some (T, cur.size) := by unfold World.shape?; rw [h4]
  have hlt := lt_of_block h4
  have hheap : ∃ fz', (w.freeze ⟨ad.block, cur.size, none⟩ 1).heap[ad.block]? = some (.cells cur T fz') ∧ FzOk cur.size fz' := by
    obtain ⟨lo, hi⟩ := fz
    refine ⟨if lo == hi then (cur.size, cur.size + 1) else (min lo cur.size, max hi (cur.size + 1)), ?_, ?_⟩
    · unfold World.freeze
      rw [if_neg (by decide)]
      simp only [Array.getElem?_modify, if_true, h4, Option.map_some]
    · split
      · exact .inr (Nat.le_refl _)
      · rename_i hne
        rcases hfz with hz | hz
        · simp only [Prod.mk.injEq] at hz; simp [hz.1, hz.2] at hne
        · simp only at hz; exact .inr (by simp only; omega)
  have hother : ∀ c, c ≠ ad.block → (w.freeze ⟨ad.block, cur.size, none⟩ 1).heap[c]? = w.heap[c]? := fun c hc => by
    unfold World.freeze
    rw [if_neg (by decide)]
    simp [Array.getElem?_modify, Ne.symm hc]
  refine any_run E h (run_nv (w' := w.freeze ⟨ad.block, cur.size, none⟩ 1) ?_) fun a' E' => next a' _ E' (H.trans ?_)
  · simp [convert, run_underlying ht, run_underlying he, markStringish, hsh]
  · obtain ⟨fz', hh1, hh2⟩ := hheap
    have key := Ev.change H.heap hk (e' := .vec (some ad) cap 1 xs T) (w' := w.freeze ⟨ad.block, cur.size, none⟩ 1) ⟨rfl, rfl, rfl, by simp [World.freeze], fun c _ hc => hother c fun e => hc (by simp [Ent.own, e])⟩ ⟨h1, h2, h3, cur, fz', hh1, hh2, h5, h6⟩ (fun c hc => .inl hc)
    rwa [List.set_getElem?_self hk] at key

theorem run_equalnil {t e : TypeId} (hu : P.underlying t = some (.slice e)) (ao : Option Addr) (m c : Nat) (w : World) : (Op.equal t (.slice ao m c) (.slice none 0 0)).run P w = .ok ao.isNone w := by
  show (Op.equalIn (9999 + 1) t _ _).run P w = _
  unfold Op.equalIn
  simp only [Sem.run_bind, run_underlying hu, Result.andThen]
  cases ao <;> rfl
theorem run_slicenil {t e : TypeId} (hu : P.underlying t = some (.slice e)) (ao : Option Addr) (m c : Nat) (w : World) : (binOp .eql t (.slice ao m c) (.slice none 0 0)).run P w = .ok (.bool ao.isNone) w := by
  show ((do pure (Value.bool (← Op.equal t (.slice ao m c) (.slice none 0 0)))) : Sem Value).run P w = _
  simp only [Sem.run_bind, run_equalnil hu, Result.andThen, Sem.run_pure]
theorem run_slicenot {t e : TypeId} (hu : P.underlying t = some (.slice e)) (ao : Option Addr) (m c : Nat) (w : World) : (binOp .neq t (.slice ao m c) (.slice none 0 0)).run P w = .ok (.bool ao.isSome) w := by
  show ((do pure (Value.bool (!(← Op.equal t (.slice ao m c) (.slice none 0 0))))) : Sem Value).run P w = _
  simp only [Sem.run_bind, run_equalnil hu, Result.andThen, Sem.run_pure]
  cases ao <;> rfl

theorem run_rem_nat (x y : Nat) (hy : 0 < y) (w : World) : (Op.intDiv .rem .i64 ((x : Nat) : Int) ((y : Nat) : Int)).run P w = .ok (.int .i64 ((x % y : Nat) : Int)) w := by
  have h : ¬ ((y : Nat) : Int) = 0 := by omega
  unfold Op.intDiv
  simp only [h, if_false]
  rw [show Int.tmod ((x : Nat) : Int) ((y : Nat) : Int) = ((x % y : Nat) : Int) from rfl]
  rfl
end
end Go.Dbr
