import Derived.Test.YtofecellbfhnjaaBk1
import Derived.Deep.Slices
import Derived.Lib.AppendZeros
import Derived.Laws.CopyRow
import Derived.Laws.MakeOwn
import Derived.ChangeKeysEq
import Derived.Laws.StructEq
import Derived.OrdersHeld
/- Bytes in strings; elements of slices. -/

namespace Go.Dbr
open Go Go.RowKit

def bstr (l : List UInt8) : ByteArray := ⟨l.toArray⟩
theorem bstr_toList (l : List UInt8) : ByteArray.toList (bstr l) = l := by
  have h : ∀ (b : ByteArray), b.toList = b.data.toList := fun b => by
    simp [ByteArray.toList]
    have key : ∀ (n i : Nat) (r : List UInt8), b.data.size - i = n → ByteArray.toList.loop b i r = r.reverse ++ b.data.toList.drop i := by
      intro n
      induction n with
      | zero =>
        intro i r hn
        rw [ByteArray.toList.loop]
        have : ¬ i < b.size := by show ¬ i < b.data.size; omega
        rw [if_neg this, List.drop_eq_nil_of_le (by simp; omega), List.append_nil]
      | succ n ih =>
        intro i r hn
        rw [ByteArray.toList.loop]
        have hi : i < b.data.size := by omega
        have hi' : i < b.size := hi
        rw [if_pos hi', ih (i + 1) _ (by omega), List.reverse_cons, List.append_assoc]
        congr 1
        have h2 := List.drop_eq_getElem_cons (l := b.data.toList) (i := i) (by simpa using hi)
        rw [h2]
        simp only [ByteArray.get!, Array.getElem_toList, getElem!_pos b.data i hi]
        rfl
    have := key (b.data.size) 0 [] (by omega)
    simpa using this
  rw [h]
  rfl
theorem bstr_eq (l m : List UInt8) : (ByteArray.toList (bstr l) == ByteArray.toList (bstr m)) = (l == m) := by rw [bstr_toList, bstr_toList]
theorem bstr_size (l : List UInt8) : (bstr l).size = l.length := rfl
theorem cutAt_zero (ao : Option Addr) (cap sz : Nat) : cutAt ao cap 0 sz = ao := by
  unfold cutAt
  split
  · rfl
  · cases ao with
    | none => rfl
    | some ad => simp [Addr.add]

section
variable {P : Program} {ops : Array Oper} {Q : Exit → Act → World → Prop} {n i : Nat} {l : List (Nat × Value)} {a : Act} {w w0 : World} {d : Option Tmp} {L L0 : List Ent} {K : Act → World → Prop}

theorem run_str {src dst e : TypeId} {ao : Option Addr} {cap : Nat} {bs : List UInt8} (hs : P.underlying src = some (.slice e)) (he : P.underlying e = some (.int .u8)) (hd : P.underlying dst = some .string)
    (hr : Reads w ao (bys bs)) (hz : ao = none → bs.length = 0) : (convert src dst (.slice ao bs.length cap)).run P w = .ok (.string (bstr bs)) w := by
  cases ao with
  | none =>
    have : bs = [] := List.eq_nil_of_length_eq_zero (hz rfl)
    subst this
    exact run_convert_bytes_nil w src e hs he _ _ dst hd
  | some ad =>
    have := run_convert_bytes_back (P := P) w src dst e ad cap bs hs he hd (fun j hj => hr j _ (bys_get hj))
    exact this

/-- string(b) -/
theorem op_str (E : Env a n l) {src dst e : TypeId} {ao : Option Addr} {cap p : Nat} {bs : List UInt8} (h : opAt ops n i l = some (.run d (nv (convert src dst (.slice ao p cap))))) (hp : p = bs.length)
    (hs : P.underlying src = some (.slice e)) (he : P.underlying e = some (.int .u8)) (hd : P.underlying dst = some .string) (hr : Reads w ao (bys bs)) (hz : ao = none → p = 0)
    (next : ∀ a', Env a' n (putl d (.string (bstr bs)) l) → K a' w) : wpOp P ops Q i K a w := by
  subst hp
  exact op_val E h (run_str hs he hd hr hz) next

/-- the address of an element -/
theorem run_indexAt {t e : TypeId} {sz : Nat} {k : IntKind} (hu : P.underlying t = some (.slice e)) (hs : (fun w => (sizeOf e).run P w) = fun w => .ok sz w) (ad : Addr) (len cap : Nat) (ix : Int) (h0 : 0 ≤ ix) (h1 : ix < len) :
    (Instr.indexAt t (.slice (some ad) len cap) (.int k ix)).run P w = .ok (.pointer (some (ad.add (ix.toNat * sz)))) w := by
  have hs' : (sizeOf e).run P w = .ok sz w := congrFun hs w
  simp [Instr.indexAt, asIntOf, run_underlying hu, h0, h1, hs']

/-- an element of a slice is loaded -/
theorem op_loadel (E : Env a n l) {t : TypeId} {ad : Addr} {ao : Option Addr} {xs : List Value} {j : Nat} {v : Value} (h : opAt ops n i l = some (.run d (nv (Instr.loadAt t (.pointer (some (ad.add j)))))))
    (hr : Reads w ao xs) (ha : ao = some ad) (hv : xs[j]? = some v) (ht : (fun w => (isAgg t).run P w) = fun w => .ok false w) (next : ∀ a', Env a' n (putl d v l) → K a' w) : wpOp P ops Q i K a w := by
  subst ha
  exact op_load E h (hr j v hv) ht next

theorem Heap.setVec {k : Nat} {ad : Addr} {cap sz j : Nat} {xs : List Value} {T : TypeId} (v : Value) (h : Heap w L) (hk : L[k]? = some (.vec (some ad) cap sz xs T)) (hj : j < xs.length) :
    Ev w L (w.setCell (ad.add j) v) (L.set k (.vec (some ad) cap sz (xs.set j v) T)) := by
  obtain ⟨h1, h2, h3, cur, fz, h4, hfz, h5, h6⟩ := h.holds k _ hk
  obtain ⟨b, o, sp⟩ := ad
  simp only at h1 h4 h5 h6
  subst h1
  rw [add_off]
  refine Ev.change h hk (chg_setCell w ⟨b, o + j, none⟩ v rfl) ⟨rfl, h2, by simpa using h3, cur.setIfInBounds (o + j) v, fz, heap_setCell_fz v h4, by simpa using hfz, by simpa using h5, fun m hm => ?_⟩ (fun c hc => .inl hc)
  simp only [List.length_set] at hm
  by_cases hmj : m = j
  · subst hmj
    have h7 : o + m < cur.size := by omega
    rw [Array.getElem?_setIfInBounds_self_of_lt h7, List.getElem?_set_self hm]
  · have h7 : o + j ≠ o + m := by omega
    rw [Array.getElem?_setIfInBounds_ne h7, List.getElem?_set_ne (Ne.symm hmj)]
    exact h6 m hm

theorem run_storeel {k : Nat} {ad : Addr} {cap sz j : Nat} {xs : List Value} {T t : TypeId} {v : Value} (hs : (fun w => (sizeOf t).run P w) = fun w => .ok 1 w) (h : Heap w L) (hk : L[k]? = some (.vec (some ad) cap sz xs T))
    (hj : j < xs.length) (hv : v.oneCell' = true) : (Instr.storeAt t (.pointer (some (ad.add j))) v).run P w = .ok () (w.setCell (ad.add j) v) := by
  have hcell : ∃ u, w.cell? (ad.add j) = some u := ⟨_, h.reads hk j _ (List.getElem?_eq_getElem hj)⟩
  obtain ⟨u, hu⟩ := hcell
  obtain ⟨h1, h2, h3, cur, fz, h4, hfz, h5, h6⟩ := h.holds k _ hk
  obtain ⟨b, o, sp⟩ := ad
  simp only at h1 h4 h5 h6
  subst h1
  have hs1 : (sizeOf t).run P w = .ok 1 w := congrFun hs w
  have hc : v.cells = #[v] := by cases v <;> first | rfl | (simp [Value.oneCell'] at hv)
  rw [add_off] at hu ⊢
  have hfr := frozen_fz (j := o + j) h4 hfz (by omega)
  simp [Instr.storeAt, Instr.sureAddr, storeVar, hc, hs1, storeCells, add_off, run_store P w _ v _ hv, hu, hfr]

/-- x[lo:hi] -/
theorem op_slice (E : Env a n l) {t e : TypeId} {sz len cap lo hi : Nat} {ao : Option Addr} {lov hiv : Option Value} (h : opAt ops n i l = some (.run d (nv (Instr.sliceAt t (.slice ao len cap) lov hiv none))))
    (hu : P.underlying t = some (.slice e)) (hs : (fun w => (sizeOf e).run P w) = fun w => .ok sz w) (h1 : lo ≤ hi) (h2 : hi ≤ cap)
    (hlo : lov = none ∧ lo = 0 ∨ ∃ k, lov = some (.int k lo)) (hhi : hiv = none ∧ hi = len ∨ ∃ k, hiv = some (.int k hi))
    (next : ∀ a', Env a' n (putl d (.slice (cutAt ao cap lo sz) (hi - lo) (cap - lo)) l) → K a' w) : wpOp P ops Q i K a w :=
  op_val E h (run_sliceAt hu hs ao len cap lo hi h1 h2 lov hiv hlo hhi) next

theorem op_slice0 (E : Env a n l) {t e : TypeId} {sz len cap hi : Nat} {ao : Option Addr} {lov hiv : Option Value} (h : opAt ops n i l = some (.run d (nv (Instr.sliceAt t (.slice ao len cap) lov hiv none))))
    (hu : P.underlying t = some (.slice e)) (hs : (fun w => (sizeOf e).run P w) = fun w => .ok sz w) (h2 : hi ≤ cap)
    (hlo : lov = none ∧ 0 = 0 ∨ ∃ k, lov = some (.int k (0 : Nat))) (hhi : hiv = none ∧ hi = len ∨ ∃ k, hiv = some (.int k hi))
    (next : ∀ a', Env a' n (putl d (.slice ao hi cap) l) → K a' w) : wpOp P ops Q i K a w := by
  refine op_slice E h hu hs (Nat.zero_le _) h2 hlo hhi fun a' E' => next a' ?_
  rw [cutAt_zero] at E'
  exact E'

theorem run_shr_u64 (x : UInt64) (k : IntKind) (n : Nat) (hn : n < 64) (w : World) : (Op.shift .shr .u64 ((UInt64.toNat x : Nat) : Int) k ((n : Nat) : Int)).run P w = .ok (.int .u64 ((UInt64.toNat (x >>> UInt64.ofNat n) : Nat) : Int)) w := by
  unfold Op.shift
  have h1 : ¬ (((n : Nat) : Int) < 0) := by omega
  have h2 : min (((n : Nat) : Int)).toNat (IntKind.bits .u64) = n := by simp [IntKind.bits]; omega
  rw [if_neg h1]
  simp only [h2, Sem.run_pure]
  rw [u64_shr (x := x) rfl hn]
end
end Go.Dbr

/- Several cells at once: structs and arrays in memory; texts joined. -/



namespace Go.Dbr
open Go Go.RowKit

theorem seg_in {s r : List Value} {j : Nat} {v : Value} (hv : s[j]? = some v) : (s ++ r)[j]? = some v := by
  rw [List.getElem?_append_left (List.getElem?_eq_some_iff.1 hv).1, hv]
theorem seg_skip {s r : List Value} {n j : Nat} {v : Value} (h : s.length = n) (hv : r[j]? = some v) : (s ++ r)[n + j]? = some v := by
  rw [List.getElem?_append_right (by omega), h, Nat.add_sub_cancel_left, hv]
theorem set_skip {s r : List Value} {n j : Nat} {v : Value} (h : s.length = n) : (s ++ r).set (n + j) v = s ++ r.set j v := by
  rw [List.set_append, if_neg (by omega), h, Nat.add_sub_cancel_left]

theorem len_app {s r : List Value} {n m : Nat} (h : s.length = n) (h' : r.length = m) : (s ++ r).length = n + m := by rw [List.length_append, h, h']
theorem one_app {s r : List Value} (h : ∀ u ∈ s, u.oneCell' = true) (h' : ∀ u ∈ r, u.oneCell' = true) : ∀ u ∈ s ++ r, u.oneCell' = true := fun u hu => (List.mem_append.1 hu).elim (h u) (h' u)
theorem one_all {s : List Value} (h : s.all (fun u => u.oneCell') = true) : ∀ u ∈ s, u.oneCell' = true := List.all_eq_true.1 h
theorem load_whole {s : List Value} {n : Nat} (h : s.length = n) : (s.drop 0).take n = s := by rw [List.drop_zero, List.take_of_length_le (by omega)]
theorem store_whole {s xs : List Value} {n : Nat} (h : s.length = n) : s.take 0 ++ xs ++ s.drop (0 + n) = xs := by rw [List.take_zero, List.nil_append, List.drop_eq_nil_of_le (by omega), List.append_nil]
theorem bys_lenh {n : Nat} {l : List UInt8} (h : l.length = n) : (bys l).length = n := by rw [bys_length, h]
theorem cutAt_block {a : Option Addr} {c lo sz : Nat} {ad : Addr} (h : cutAt a c lo sz = some ad) : ∃ b, a = some b ∧ b.block = ad.block := by
  unfold cutAt at h
  split at h
  · exact ⟨ad, h, rfl⟩
  · cases a with
    | none => cases h
    | some b => simp only [Option.map_some, Option.some.injEq] at h; exact ⟨b, rfl, by rw [← h, add_block]⟩
theorem Ro.part {w : World} {L : List Ent} {a a' : Option Addr} {xs ys : List Value} (h : Ro w L a xs) (hr : Reads w a' ys) (hb : ∀ ad, a' = some ad → ∃ b, a = some b ∧ b.block = ad.block) (hne : ys ≠ [] → xs ≠ []) : Ro w L a' ys :=
  ⟨hr, fun ad ha hy => by obtain ⟨b, hb1, hb2⟩ := hb ad ha; rw [← hb2]; exact h.off b hb1 (hne hy)⟩
theorem bys_ne {l : List UInt8} : bys l ≠ [] ↔ l ≠ [] := by simp [bys]
theorem InB.take {w : World} {L : List Ent} {a : Option Addr} {c : Nat} {l : List UInt8} (h : InB w L a c l) (n : Nat) : InB w L a c (List.take n l) :=
  ⟨h.ro.part (bys_take_reads h.reads n) (fun ad ha => ⟨ad, ha, rfl⟩) (fun hy => bys_ne.2 fun e => bys_ne.1 hy (by rw [e]; simp)), fun e => by rw [List.length_take, h.nz e]; exact Nat.min_zero _, by have := h.cap; rw [List.length_take]; omega, by have := h.small; rw [List.length_take]; omega⟩
theorem bys_in_take {w : World} {L M : List Ent} (h : Heap w L) {k : Nat} {a : Option Addr} {cap : Nat} {l : List UInt8} {T : TypeId} (hk : L[k]? = some (.vec a cap 1 (bys l) T))
    (is : List Nat) (hm : M.map some = is.map (fun i => L[i]?)) (hn : is.contains k = false) (n : Nat) (hs : n ≤ 140737489403904) : InB w M a cap (List.take n l) :=
  have ro := h.ro hk is hm hn
  ⟨ro.part (bys_take_reads ro.reads n) (fun ad ha => ⟨ad, ha, rfl⟩) (fun hy => bys_ne.2 fun e => bys_ne.1 hy (by rw [e]; simp)), fun e => by rw [List.length_take, bys_vnz h hk e]; exact Nat.min_zero _, by have := bys_vcap h hk; rw [List.length_take]; omega, by rw [List.length_take]; omega⟩
theorem InB.drop {w : World} {L : List Ent} {a : Option Addr} {c : Nat} {l : List UInt8} (h : InB w L a c l) (lo : Nat) (h1 : lo ≤ l.length) : InB w L (cutAt a c lo 1) (c - lo) (List.drop lo l) :=
  ⟨h.ro.part (bys_drop_reads h.reads c lo rfl h1 h.cap) (fun ad ha => cutAt_block ha) (fun hy => bys_ne.2 fun e => bys_ne.1 hy (by rw [e]; simp)), fun e => by have := h.nz (cutAt_none e); rw [List.length_drop]; omega, by have := h.cap; rw [List.length_drop]; omega, by have := h.small; rw [List.length_drop]; omega⟩
theorem InB.cut {w : World} {L : List Ent} {a : Option Addr} {c : Nat} {l : List UInt8} (h : InB w L a c l) (lo hi : Nat) (h1 : lo ≤ hi) (h2 : hi ≤ l.length) : InB w L (cutAt a c lo 1) (c - lo) (List.take (hi - lo) (List.drop lo l)) :=
  (h.drop lo (by omega)).take _
theorem u16s_ne {l : List UInt16} : u16s l ≠ [] ↔ l ≠ [] := by simp [u16s]
theorem InU16.take {w : World} {L : List Ent} {a : Option Addr} {c : Nat} {l : List UInt16} (h : InU16 w L a c l) (n : Nat) : InU16 w L a c (List.take n l) :=
  ⟨h.ro.part (u16s_take_reads h.reads n) (fun ad ha => ⟨ad, ha, rfl⟩) (fun hy => u16s_ne.2 fun e => u16s_ne.1 hy (by rw [e]; simp)), fun e => by rw [List.length_take, h.nz e]; exact Nat.min_zero _, by have := h.cap; rw [List.length_take]; omega, by have := h.small; rw [List.length_take]; omega⟩
theorem InU16.drop {w : World} {L : List Ent} {a : Option Addr} {c : Nat} {l : List UInt16} (h : InU16 w L a c l) (lo : Nat) (h1 : lo ≤ l.length) : InU16 w L (cutAt a c lo 1) (c - lo) (List.drop lo l) :=
  ⟨h.ro.part (u16s_drop_reads h.reads c lo rfl h1 h.cap) (fun ad ha => cutAt_block ha) (fun hy => u16s_ne.2 fun e => u16s_ne.1 hy (by rw [e]; simp)), fun e => by have := h.nz (cutAt_none e); rw [List.length_drop]; omega, by have := h.cap; rw [List.length_drop]; omega, by have := h.small; rw [List.length_drop]; omega⟩
theorem InU16.cut {w : World} {L : List Ent} {a : Option Addr} {c : Nat} {l : List UInt16} (h : InU16 w L a c l) (lo hi : Nat) (h1 : lo ≤ hi) (h2 : hi ≤ l.length) : InU16 w L (cutAt a c lo 1) (c - lo) (List.take (hi - lo) (List.drop lo l)) :=
  (h.drop lo (by omega)).take _
theorem u32s_ne {l : List UInt32} : u32s l ≠ [] ↔ l ≠ [] := by simp [u32s]
theorem InU32.take {w : World} {L : List Ent} {a : Option Addr} {c : Nat} {l : List UInt32} (h : InU32 w L a c l) (n : Nat) : InU32 w L a c (List.take n l) :=
  ⟨h.ro.part (u32s_take_reads h.reads n) (fun ad ha => ⟨ad, ha, rfl⟩) (fun hy => u32s_ne.2 fun e => u32s_ne.1 hy (by rw [e]; simp)), fun e => by rw [List.length_take, h.nz e]; exact Nat.min_zero _, by have := h.cap; rw [List.length_take]; omega, by have := h.small; rw [List.length_take]; omega⟩
theorem InU32.drop {w : World} {L : List Ent} {a : Option Addr} {c : Nat} {l : List UInt32} (h : InU32 w L a c l) (lo : Nat) (h1 : lo ≤ l.length) : InU32 w L (cutAt a c lo 1) (c - lo) (List.drop lo l) :=
  ⟨h.ro.part (u32s_drop_reads h.reads c lo rfl h1 h.cap) (fun ad ha => cutAt_block ha) (fun hy => u32s_ne.2 fun e => u32s_ne.1 hy (by rw [e]; simp)), fun e => by have := h.nz (cutAt_none e); rw [List.length_drop]; omega, by have := h.cap; rw [List.length_drop]; omega, by have := h.small; rw [List.length_drop]; omega⟩
theorem InU32.cut {w : World} {L : List Ent} {a : Option Addr} {c : Nat} {l : List UInt32} (h : InU32 w L a c l) (lo hi : Nat) (h1 : lo ≤ hi) (h2 : hi ≤ l.length) : InU32 w L (cutAt a c lo 1) (c - lo) (List.take (hi - lo) (List.drop lo l)) :=
  (h.drop lo (by omega)).take _
theorem u64s_ne {l : List UInt64} : u64s l ≠ [] ↔ l ≠ [] := by simp [u64s]
theorem InU64.take {w : World} {L : List Ent} {a : Option Addr} {c : Nat} {l : List UInt64} (h : InU64 w L a c l) (n : Nat) : InU64 w L a c (List.take n l) :=
  ⟨h.ro.part (u64s_take_reads h.reads n) (fun ad ha => ⟨ad, ha, rfl⟩) (fun hy => u64s_ne.2 fun e => u64s_ne.1 hy (by rw [e]; simp)), fun e => by rw [List.length_take, h.nz e]; exact Nat.min_zero _, by have := h.cap; rw [List.length_take]; omega, by have := h.small; rw [List.length_take]; omega⟩
theorem InU64.drop {w : World} {L : List Ent} {a : Option Addr} {c : Nat} {l : List UInt64} (h : InU64 w L a c l) (lo : Nat) (h1 : lo ≤ l.length) : InU64 w L (cutAt a c lo 1) (c - lo) (List.drop lo l) :=
  ⟨h.ro.part (u64s_drop_reads h.reads c lo rfl h1 h.cap) (fun ad ha => cutAt_block ha) (fun hy => u64s_ne.2 fun e => u64s_ne.1 hy (by rw [e]; simp)), fun e => by have := h.nz (cutAt_none e); rw [List.length_drop]; omega, by have := h.cap; rw [List.length_drop]; omega, by have := h.small; rw [List.length_drop]; omega⟩
theorem InU64.cut {w : World} {L : List Ent} {a : Option Addr} {c : Nat} {l : List UInt64} (h : InU64 w L a c l) (lo hi : Nat) (h1 : lo ≤ hi) (h2 : hi ≤ l.length) : InU64 w L (cutAt a c lo 1) (c - lo) (List.take (hi - lo) (List.drop lo l)) :=
  (h.drop lo (by omega)).take _
theorem i64s_ne {l : List Int} : i64s l ≠ [] ↔ l ≠ [] := by simp [i64s]
theorem InI64.take {w : World} {L : List Ent} {a : Option Addr} {c : Nat} {l : List Int} (h : InI64 w L a c l) (n : Nat) : InI64 w L a c (List.take n l) :=
  ⟨h.ro.part (i64s_take_reads h.reads n) (fun ad ha => ⟨ad, ha, rfl⟩) (fun hy => i64s_ne.2 fun e => i64s_ne.1 hy (by rw [e]; simp)), fun e => by rw [List.length_take, h.nz e]; exact Nat.min_zero _, by have := h.cap; rw [List.length_take]; omega, by have := h.small; rw [List.length_take]; omega⟩
theorem InI64.drop {w : World} {L : List Ent} {a : Option Addr} {c : Nat} {l : List Int} (h : InI64 w L a c l) (lo : Nat) (h1 : lo ≤ l.length) : InI64 w L (cutAt a c lo 1) (c - lo) (List.drop lo l) :=
  ⟨h.ro.part (i64s_drop_reads h.reads c lo rfl h1 h.cap) (fun ad ha => cutAt_block ha) (fun hy => i64s_ne.2 fun e => i64s_ne.1 hy (by rw [e]; simp)), fun e => by have := h.nz (cutAt_none e); rw [List.length_drop]; omega, by have := h.cap; rw [List.length_drop]; omega, by have := h.small; rw [List.length_drop]; omega⟩
theorem InI64.cut {w : World} {L : List Ent} {a : Option Addr} {c : Nat} {l : List Int} (h : InI64 w L a c l) (lo hi : Nat) (h1 : lo ≤ hi) (h2 : hi ≤ l.length) : InI64 w L (cutAt a c lo 1) (c - lo) (List.take (hi - lo) (List.drop lo l)) :=
  (h.drop lo (by omega)).take _

theorem List.set_getElem?_self {α : Type} {l : List α} {k : Nat} {x : α} (h : l[k]? = some x) : l.set k x = l := by
  apply List.ext_getElem?
  intro j
  by_cases hj : j = k
  · subst hj; rw [List.getElem?_set_self (List.getElem?_eq_some_iff.1 h).1, h]
  · rw [List.getElem?_set_ne (Ne.symm hj)]

section
variable {P : Program} {ops : Array Oper} {Q : Exit → Act → World → Prop} {n i : Nat} {l : List (Nat × Value)} {a : Act} {w w0 : World} {d : Option Tmp} {L L0 : List Ent} {K : Act → World → Prop}

theorem run_loadAgg {t : TypeId} {ad : Addr} {cs : List Value} (ht : (fun w => (isAgg t).run P w) = fun w => .ok true w) (hs : (fun w => (sizeOf t).run P w) = fun w => .ok cs.length w) (hc : ∀ j v, cs[j]? = some v → w.cell? (ad.add j) = some v) :
    (Instr.loadAt t (.pointer (some ad))).run P w = .ok (.agg cs.toArray) w := by
  have h1 : (isAgg t).run P w = .ok true w := congrFun ht w
  have h2 : (sizeOf t).run P w = .ok cs.length w := congrFun hs w
  have h3 := run_loadCells_list (P := P) w ad cs hc
  simp [Instr.loadAt, Instr.sureAddr, loadVar, h1, h2, h3]

theorem Heap.cells {k b off m : Nat} {cs xs : List Value} {T : TypeId} (h : Heap w L) (hk : L[k]? = some (.box b cs T)) (hx : (cs.drop off).take m = xs) : ∀ (j : Nat) (v : Value), xs[j]? = some v → w.cell? ((⟨b, off, none⟩ : Addr).add j) = some v := by
  intro j v hv
  rw [add_off]
  refine h.cell hk ?_
  rw [← hx, List.getElem?_take] at hv
  split at hv
  · rwa [List.getElem?_drop] at hv
  · cases hv

theorem Ev.cellAgg {t : TypeId} {b off k m : Nat} {cs xs : List Value} {T : TypeId} (H : Ev w0 L0 w L) (hk : L[k]? = some (.box b cs T)) (hx : (cs.drop off).take m = xs) (hm : xs.length = m) (ht : (fun w => (isAgg t).run P w) = fun w => .ok true w) (hs : (fun w => (sizeOf t).run P w) = fun w => .ok m w) : (loadVar t ⟨b, off, none⟩).run P w = .ok (.agg xs.toArray) w := by
  subst hm
  have h1 : (isAgg t).run P w = .ok true w := congrFun ht w
  have h2 : (sizeOf t).run P w = .ok xs.length w := congrFun hs w
  have h3 := run_loadCells_list (P := P) w ⟨b, off, none⟩ xs (H.heap.cells hk hx)
  simp [loadVar, h1, h2, h3]

/-- a struct, an array of a box is loaded -/
theorem op_loadaggbox (E : Env a n l) {t : TypeId} {b off k m : Nat} {cs xs : List Value} {T : TypeId} (h : opAt ops n i l = some (.run d (nv (Instr.loadAt t (.pointer (some ⟨b, off, none⟩))))))
    (H : Ev w0 L0 w L) (hk : L[k]? = some (.box b cs T)) (hx : (cs.drop off).take m = xs) (hm : xs.length = m) (ht : (fun w => (isAgg t).run P w) = fun w => .ok true w) (hs : (fun w => (sizeOf t).run P w) = fun w => .ok m w)
    (next : ∀ a', Env a' n (putl d (.agg xs.toArray) l) → K a' w) : wpOp P ops Q i K a w := by
  subst hm
  exact op_val E h (run_loadAgg ht hs (H.heap.cells hk hx)) next

/-- .. of elements -/
theorem op_loadaggat (E : Env a n l) {t : TypeId} {ad A : Addr} {ao : Option Addr} {o m : Nat} {ys xs : List Value} (h : opAt ops n i l = some (.run d (nv (Instr.loadAt t (.pointer (some A))))))
    (hA : A = ad.add o) (hr : Reads w ao ys) (ha : ao = some ad) (hx : ∀ j, j < m → ys[o + j]? = xs[j]?) (hm : xs.length = m) (ht : (fun w => (isAgg t).run P w) = fun w => .ok true w) (hs : (fun w => (sizeOf t).run P w) = fun w => .ok m w)
    (next : ∀ a', Env a' n (putl d (.agg xs.toArray) l) → K a' w) : wpOp P ops Q i K a w := by
  subst hA ha hm
  refine op_val E h (run_loadAgg ht hs fun j v hv => ?_) next
  rw [Deep.add_add]
  exact hr (o + j) v (by rw [hx j (List.getElem?_eq_some_iff.1 hv).1, hv])

/-- a cell of an element -/
theorem op_loadf (E : Env a n l) {t : TypeId} {ad A : Addr} {ao : Option Addr} {ys : List Value} {o : Nat} {v : Value} (h : opAt ops n i l = some (.run d (nv (Instr.loadAt t (.pointer (some A))))))
    (hA : A = ad.add o) (hr : Reads w ao ys) (ha : ao = some ad) (hv : ys[o]? = some v) (ht : (fun w => (isAgg t).run P w) = fun w => .ok false w) (next : ∀ a', Env a' n (putl d v l) → K a' w) : wpOp P ops Q i K a w := by
  subst hA ha
  exact op_load E h (hr o v hv) ht next

theorem Heap.setRange {k b off : Nat} {cs xs : List Value} {T : TypeId} (h : Heap w L) (hk : L[k]? = some (.box b cs T)) :
    Ev w L (w.setRow b (cs.take off ++ xs ++ cs.drop (off + xs.length)).toArray) (L.set k (.box b (cs.take off ++ xs ++ cs.drop (off + xs.length)) T)) := by
  have hh : w.heap[b]? = some (.cells cs.toArray T (0, 0)) := h.holds k _ hk
  exact Ev.change h hk ⟨rfl, rfl, rfl, by simp, fun c hc hne => setRow_other w b c _ (fun e => hne (by simp [Ent.own, e]))⟩ (setRow_heap w b cs.toArray _ T _ hh) (fun c hc => .inl hc)

theorem run_storeAgg {k b off : Nat} {cs xs : List Value} {T t : TypeId} {v : Value} (hv : v.cells = xs.toArray) (hs : (fun w => (sizeOf t).run P w) = fun w => .ok xs.length w) (h : Heap w L) (hk : L[k]? = some (.box b cs T)) (hl : off + xs.length ≤ cs.length) (h1 : ∀ u ∈ xs, u.oneCell' = true) :
    (Instr.storeAt t (.pointer (some ⟨b, off, none⟩)) v).run P w = .ok () (w.setRow b (cs.take off ++ xs ++ cs.drop (off + xs.length)).toArray) := by
  have hh : w.heap[b]? = some (.cells cs.toArray T (0, 0)) := h.holds k _ hk
  have h2 : (sizeOf t).run P w = .ok xs.length w := congrFun hs w
  have h3 := run_storeCells_at P b off T xs 0 cs.toArray w hh (by simpa using hl) h1
  simp only [Nat.add_zero] at h3
  simp [Instr.storeAt, Instr.sureAddr, storeVar, hv, h2, h3]

/-- a struct, an array is stored -/
theorem op_storeaggbox (E : Env a n l) {t : TypeId} {b off k m : Nat} {cs xs cs' : List Value} {T : TypeId} {v : Value} (h : opAt ops n i l = some (.run d (nu (Instr.storeAt t (.pointer (some ⟨b, off, none⟩)) v))))
    (H : Ev w0 L0 w L) (hk : L[k]? = some (.box b cs T)) (hv : v.cells = xs.toArray) (hm : xs.length = m) (hl : off + m ≤ cs.length) (hs : (fun w => (sizeOf t).run P w) = fun w => .ok m w) (h1 : ∀ u ∈ xs, u.oneCell' = true)
    (hc : cs.take off ++ xs ++ cs.drop (off + m) = cs') {L' : List Ent} (hL : L.set k (.box b cs' T) = L')
    (next : ∀ a' w', Env a' n (putl d undef l) → Ev w0 L0 w' L' → K a' w') : wpOp P ops Q i K a w := by
  subst hm hc hL
  exact any_unit E h (run_nu (run_storeAgg hv hs H.heap hk hl h1)) fun a' E' => next a' _ E' (H.trans (H.heap.setRange hk))

/-- an element's cell of an owned slice is stored -/
theorem op_storef (E : Env a n l) {t : TypeId} {ad A : Addr} {ao : Option Addr} {k cap sz o : Nat} {xs : List Value} {T : TypeId} {v : Value} (h : opAt ops n i l = some (.run d (nu (Instr.storeAt t (.pointer (some A)) v))))
    (hA : A = ad.add o) (H : Ev w0 L0 w L) (hk : L[k]? = some (.vec ao cap sz xs T)) (ha : ao = some ad) (hj : o < xs.length) (hs : (fun w => (sizeOf t).run P w) = fun w => .ok 1 w) (hv : v.oneCell' = true)
    (next : ∀ a' w', Env a' n (putl d undef l) → Ev w0 L0 w' (L.set k (.vec ao cap sz (xs.set o v) T)) → K a' w') : wpOp P ops Q i K a w := by
  subst hA ha
  exact any_unit E h (run_nu (run_storeel hs H.heap hk hj hv)) fun a' E' => next a' _ E' (H.trans (H.heap.setVec v hk hj))

/-- a slice of an array -/
theorem Heap.readsBox {k b off m : Nat} {cs xs : List Value} {T : TypeId} (h : Heap w L) (hk : L[k]? = some (.box b cs T)) (hx : (cs.drop off).take m = xs) : Reads w (some ⟨b, off, none⟩) xs := h.cells hk hx
set_option linter.unusedSimpArgs false in
/-- arr[lo:hi] -/
theorem op_slicearr (E : Env a n l) {t e : TypeId} {sz m lo hi b off : Nat} {lov hiv : Option Value} (h : opAt ops n i l = some (.run d (nv (Instr.sliceAt t (.pointer (some ⟨b, off, none⟩)) lov hiv none))))
    (hu : P.underlying t = some (.array m e)) (hs : (fun w => (sizeOf e).run P w) = fun w => .ok sz w) (h1 : lo ≤ hi) (h2 : hi ≤ m) (h3 : lo < m)
    (hlo : lov = none ∧ lo = 0 ∨ ∃ k, lov = some (.int k lo)) (hhi : hiv = none ∧ hi = m ∨ ∃ k, hiv = some (.int k hi)) {o : Nat} (ho : off + lo * sz = o)
    (next : ∀ a', Env a' n (putl d (.slice (some ⟨b, o, none⟩) (hi - lo) (m - lo)) l) → K a' w) : wpOp P ops Q i K a w := by
  have hs' : (sizeOf e).run P w = .ok sz w := congrFun hs w
  have h4 : ¬ m = lo := by omega
  subst ho
  refine op_val E h (v := .slice (some ⟨b, off + lo * sz, none⟩) (hi - lo) (m - lo)) ?_ next
  rcases hlo with ⟨rfl, rfl⟩ | ⟨k, rfl⟩ <;> rcases hhi with ⟨rfl, rfl⟩ | ⟨k', rfl⟩ <;>
    simp [Instr.sliceAt, Instr.sureAddr, Instr.sliceBounds, Instr.sliceBound, run_underlying hu, asIntOf, hs', h1, h2, h4, add_off] <;> omega

theorem run_equalnil {t e : TypeId} (hu : P.underlying t = some (.slice e)) (ao : Option Addr) (m c : Nat) (w : World) : (Op.equal t (.slice ao m c) (.slice none 0 0)).run P w = .ok ao.isNone w := by
  show (Op.equalIn (9999 + 1) t _ _).run P w = _
  unfold Op.equalIn
  simp only [Sem.run_bind, run_underlying hu, Result.andThen]
  cases ao <;> rfl
theorem run_slicenil {t e : TypeId} (hu : P.underlying t = some (.slice e)) (ao : Option Addr) (m c : Nat) (w : World) : (binOp .eql t (.slice ao m c) (.slice none 0 0)).run P w = .ok (.bool ao.isNone) w := by
  show ((do pure (Value.bool (← Op.equal t (.slice ao m c) (.slice none 0 0)))) : Sem Value).run P w = _
  simp only [Sem.run_bind, run_equalnil hu, Result.andThen, Sem.run_pure]
theorem run_rem_nat (x y : Nat) (hy : 0 < y) (w : World) : (Op.intDiv .rem .i64 ((x : Nat) : Int) ((y : Nat) : Int)).run P w = .ok (.int .i64 ((x % y : Nat) : Int)) w := by
  have h : ¬ ((y : Nat) : Int) = 0 := by omega
  unfold Op.intDiv
  simp only [h, if_false]
  rw [show Int.tmod ((x : Nat) : Int) ((y : Nat) : Int) = ((x % y : Nat) : Int) from rfl]
  rfl
end
end Go.Dbr

/- copy, make, arrays that are compared, slices of arrays. -/





namespace Go.Dbr
open Go Go.RowKit

def eqOp (op : BinOp) (t : TypeId) (a b : Operand) (x y : Value) : Sem Value := do eqGuard op t a b x y; binOp op t x y
theorem bys_getD {l : List UInt8} {j : Nat} (h : j < l.length) : (bys l)[j]? = some (bv (l.getD j 0)) := by rw [bys_get h]; simp [List.getD, h]
section
variable {P : Program} {ops : Array Oper} {Q : Exit → Act → World → Prop} {n i : Nat} {l : List (Nat × Value)} {a : Act} {w w0 : World} {d : Option Tmp} {L L0 : List Ent} {K : Act → World → Prop}

/-- copy into a row of a box -/
theorem op_copybox (E : Env a n l) {dT sT ty elem : TypeId} {b off k dLen dCap sLen sCap m : Nat} {cs cs' xs ys : List Value} {T : TypeId} {so : Option Addr}
    (h : opAt ops n i l = some (.run d (nv (Builtin.copy_ #[dT, sT] ty #[.slice (some ⟨b, off, none⟩) dLen dCap, .slice so sLen sCap]))))
    (H : Ev w0 L0 w L) (hk : L[k]? = some (.box b cs T)) (hu : P.underlying dT = some (.slice elem)) (hs : (P.info? elem).map (·.size) = some 1)
    (hr : Reads w so xs) (hz : so = none → sLen = 0) (hm : Nat.min sLen dLen = m) (hy : xs.take m = ys) (hl : ys.length = m) (hfit : off + m ≤ cs.length) (h1 : ∀ v ∈ ys, v.oneCell' = true)
    (hc : cs.take off ++ ys ++ cs.drop (off + m) = cs') {L' : List Ent} (hL : L.set k (.box b cs' T) = L')
    (next : ∀ a' w', Env a' n (putl d (.int .i64 ((m : Nat) : Int)) l) → Ev w0 L0 w' L' → K a' w') : wpOp P ops Q i K a w := by
  subst hL hc
  have hh : w.heap[b]? = some (.cells cs.toArray T (0, 0)) := H.heap.holds k _ hk
  cases so with
  | none =>
    have e0 := hz rfl
    subst e0
    have em : m = 0 := by rw [← hm]; exact Nat.zero_min _
    subst em
    have ey : ys = [] := List.eq_nil_of_length_eq_zero hl
    subst ey
    obtain ⟨ti, hti, hsz⟩ : ∃ ti, P.info? elem = some ti ∧ ti.size = 1 := by
      cases hq : P.info? elem with
      | none => simp [hq] at hs
      | some ti => exact ⟨ti, rfl, by simpa [hq] using hs⟩
    have hrun : (Builtin.copy_ #[dT, sT] ty #[.slice (some ⟨b, off, none⟩) dLen dCap, .slice none 0 sCap]).run P w = .ok (.int .i64 ((0 : Nat) : Int)) w := by
      simp [Builtin.copy_, run_underlying hu, Builtin.lenOf, Builtin.firstCells, sizeOf, typeInfo, hti, storeCells, goInt]
    refine any_run E h (run_nv hrun) fun a' E' => next a' w E' ?_
    have e1 : cs.take off ++ [] ++ cs.drop (off + 0) = cs := by simp
    rw [e1, List.set_getElem?_self hk]
    exact H
  | some ad =>
    have hrun := run_copy_row P w dT sT ty elem b off dLen dCap ad sLen sCap cs.toArray T ys hu hs hh (by rw [hl, hm]) (fun j v hv => hr j v (by
      rw [← hy, List.getElem?_take] at hv
      split at hv
      · exact hv
      · cases hv)) (by rw [hl]; simpa using hfit) h1
    rw [hl] at hrun
    refine any_run E h (run_nv hrun) fun a' E' => next a' _ E' (H.trans ?_)
    have := H.heap.setRange (k := k) (off := off) (xs := ys) hk
    rw [hl] at this
    simpa using this

theorem some_of {ao : Option Addr} {m j : Nat} (hz : ao = none → m = 0) (h : j < m) : ∃ ad, ao = some ad := by
  cases ao with
  | none => have := hz rfl; omega
  | some ad => exact ⟨ad, rfl⟩
theorem run_indexsl {t e : TypeId} {sz len cap j jo : Nat} {k : IntKind} {ix : Int} {ao : Option Addr} {ad : Addr} (had : ao = some ad) (hu : P.underlying t = some (.slice e)) (hs : (fun w => (sizeOf e).run P w) = fun w => .ok sz w) (hj : ix = (j : Int)) (h1 : j < len) (hjo : j * sz = jo) (w : World) :
    (Instr.indexAt t (.slice ao len cap) (.int k ix)).run P w = .ok (.pointer (some (ad.add jo))) w := by
  subst had hjo hj
  have := run_indexAt (w := w) (k := k) hu hs ad len cap ((j : Nat) : Int) (by omega) (by omega)
  simpa using this
/-! ### arrays that are compared -/
theorem run_eqItems_int {e : TypeId} {k : IntKind} (he : P.underlying e = some (.int k)) (ha : (fun w => (isAgg e).run P w) = fun w => .ok false w) (dd : Nat) (xs ys : List Int) :
    ∀ (is : List Nat), (∀ j ∈ is, j < xs.length ∧ j < ys.length) → (Op.eqItems (dd + 1) e 1 (xs.map (Value.int k)).toArray (ys.map (Value.int k)).toArray is).run P w = .ok (is.all fun j => xs[j]? == ys[j]?) w
  | [], _ => by simp [Op.eqItems]
  | j :: is, h => by
    have ha' : (isAgg e).run P w = .ok false w := congrFun ha w
    obtain ⟨h1, h2⟩ := h j (by simp)
    have ih := run_eqItems_int he ha dd xs ys is (fun q hq => h q (by simp [hq]))
    have p1 : (part e (xs.map (Value.int k)).toArray (j * 1)).run P w = .ok (.int k xs[j]) w := by
      simp [part, ha', h1]
    have p2 : (part e (ys.map (Value.int k)).toArray (j * 1)).run P w = .ok (.int k ys[j]) w := by
      simp [part, ha', h2]
    have p3 : (Op.equalIn (dd + 1) e (.int k xs[j]) (.int k ys[j])).run P w = .ok (xs[j] == ys[j]) w := by
      unfold Op.equalIn
      simp only [Sem.run_bind, run_underlying he, Result.andThen]
      simp
    simp only [Op.eqItems, Sem.run_bind, p1, p2, p3, Result.andThen_ok]
    have e1 : (xs[j]? == ys[j]?) = (xs[j] == ys[j]) := by rw [List.getElem?_eq_getElem h1, List.getElem?_eq_getElem h2]; rfl
    rw [List.all_cons, e1]
    cases (xs[j] == ys[j])
    · simp
    · simpa using ih
theorem all_get {xs ys : List Int} {n : Nat} (hx : xs.length = n) (hy : ys.length = n) : ((List.range n).all fun j => xs[j]? == ys[j]?) = (xs == ys) := by
  rw [Bool.eq_iff_iff, List.all_eq_true, beq_iff_eq]
  constructor
  · intro h
    apply List.ext_getElem?
    intro j
    by_cases hj : j < n
    · simpa using h j (by simpa using hj)
    · rw [List.getElem?_eq_none (by omega), List.getElem?_eq_none (by omega)]
  · rintro rfl j _
    simp
theorem run_equalarr {t e : TypeId} {k : IntKind} {m : Nat} (hu : P.underlying t = some (.array m e)) (he : P.underlying e = some (.int k)) (ha : (fun w => (isAgg e).run P w) = fun w => .ok false w) (hc : P.cellsOf e = 1) (xs ys : List Int) (hx : xs.length = m) (hy : ys.length = m) (w : World) :
    (Op.equal t (.agg (xs.map (Value.int k)).toArray) (.agg (ys.map (Value.int k)).toArray)).run P w = .ok (xs == ys) w := by
  obtain ⟨ti, hi⟩ : ∃ ti, P.info? e = some ti := by
    cases hi : P.info? e with
    | none => simp [Program.cellsOf, hi] at hc
    | some ti => exact ⟨ti, rfl⟩
  show (Op.equalIn (9998 + 1 + 1) t _ _).run P w = _
  rw [run_equalIn_array _ _ _ _ hu hi, hc, run_eqItems_int he ha 9998 xs ys _ (fun j hj => by have := List.mem_range.1 hj; omega), all_get hx hy]

theorem bys_ints (l : List UInt8) : bys l = (l.map fun x => ((UInt8.toNat x : Nat) : Int)).map (Value.int .u8) := by simp [bys, bv]
theorem bys_inj (l m : List UInt8) : ((l.map fun x => ((UInt8.toNat x : Nat) : Int)) == (m.map fun x => ((UInt8.toNat x : Nat) : Int))) = (l == m) := by
  rw [Bool.eq_iff_iff, beq_iff_eq, beq_iff_eq]
  constructor
  · intro h
    exact List.map_inj_right (fun x y e => UInt8.toNat_inj.1 (by omega)) |>.1 h
  · rintro rfl; rfl
theorem bys_eqarr {t e : TypeId} {m : Nat} (hu : P.underlying t = some (.array m e)) (he : P.underlying e = some (.int .u8)) (ha : (fun w => (isAgg e).run P w) = fun w => .ok false w) (hc : P.cellsOf e = 1) {x y : List UInt8} (hx : x.length = m) (hy : y.length = m) (w : World) :
    (binOp .eql t (.agg (bys x).toArray) (.agg (bys y).toArray)).run P w = .ok (.bool (x == y)) w := by
  show ((do pure (Value.bool (← Op.equal t (.agg (bys x).toArray) (.agg (bys y).toArray)))) : Sem Value).run P w = _
  rw [bys_ints, bys_ints]
  simp only [Sem.run_bind, run_equalarr hu he ha hc (x.map fun q => ((UInt8.toNat q : Nat) : Int)) (y.map fun q => ((UInt8.toNat q : Nat) : Int)) (by simpa using hx) (by simpa using hy), Result.andThen, Sem.run_pure, bys_inj]
theorem u64s_ints (l : List UInt64) : u64s l = (l.map fun x => ((UInt64.toNat x : Nat) : Int)).map (Value.int .u64) := by simp [u64s, uv64]
theorem u64s_inj (l m : List UInt64) : ((l.map fun x => ((UInt64.toNat x : Nat) : Int)) == (m.map fun x => ((UInt64.toNat x : Nat) : Int))) = (l == m) := by
  rw [Bool.eq_iff_iff, beq_iff_eq, beq_iff_eq]
  constructor
  · intro h
    exact List.map_inj_right (fun x y e => UInt64.toNat_inj.1 (by omega)) |>.1 h
  · rintro rfl; rfl
theorem bys_eqop {t e : TypeId} {m : Nat} {a b : Operand} (hg : P.eqGuardType P.depth t = false) (hu : P.underlying t = some (.array m e)) (he : P.underlying e = some (.int .u8)) (ha : (fun w => (isAgg e).run P w) = fun w => .ok false w) (hc : P.cellsOf e = 1) {x y : List UInt8} (hx : x.length = m) (hy : y.length = m) (w : World) :
    (eqOp .eql t a b (.agg (bys x).toArray) (.agg (bys y).toArray)).run P w = .ok (.bool ((x == y))) w := by
  simp only [eqOp, Sem.run_bind, run_eqGuard_agg w _ _ _ _ _ _ hg, Result.andThen_ok, bys_eqarr hu he ha hc hx hy]
end
end Go.Dbr

/- append of zeros to what is owned; a slice's array. -/

namespace Go.Dbr
open Go Go.RowKit
section
set_option linter.unusedSimpArgs false
variable {P : Program}

variable {ops : Array Oper} {Q : Exit → Act → World → Prop} {n i : Nat} {l : List (Nat × Value)} {a : Act} {w w0 : World} {L L0 : List Ent} {d : Option Tmp} {K : Act → World → Prop}
end
end Go.Dbr

/- x[:n:n] of what is owned. -/

namespace Go.Dbr
open Go Go.RowKit
section
variable {P : Program} {ops : Array Oper} {Q : Exit → Act → World → Prop} {n i : Nat} {l : List (Nat × Value)} {a : Act} {w w0 : World} {L L0 : List Ent} {d : Option Tmp} {K : Act → World → Prop}
end
end Go.Dbr

/- Drawn regions: what only reads comes first, as long as what it reads stands. -/


namespace Go.Dbr
open Go Go.RowKit
set_option linter.unusedSimpArgs false

section
variable {P : Program} {ops : Array Oper} {Q : Exit → Act → World → Prop} {S : World → Prop} {St : List Nat}

/-- in any order; as long as none of 'St' has come up, S holds behind each operation -/
def wpAnyS (P : Program) (ops : Array Oper) (Q : Exit → Act → World → Prop) (S : World → Prop) (St : List Nat) : Nat → Array Bool → Act → World → Prop
  | 0, listed, a, w => Region.ready .any ops listed = [] ∧ Q .normal a w
  | m + 1, listed, a, w =>
    (Region.ready .any ops listed = [] → Q .normal a w) ∧
    ∀ i ∈ Region.ready .any ops listed, wpOp P ops Q i (fun a' w' => ((St.all fun s => !(listed.setIfInBounds i true).getD s true) = true → S w') ∧ wpAnyS P ops Q S St m (listed.setIfInBounds i true) a' w') a w

theorem wpAny_of_S : ∀ (m : Nat) (listed : Array Bool) (a : Act) (w : World), wpAnyS P ops Q S St m listed a w → wpAny P .any ops Q m listed a w
  | 0, _, _, _, h => h
  | m + 1, _, _, _, h => ⟨h.1, fun i hi => wpOp_mono (fun a' w' h' => wpAny_of_S m _ a' w' h'.2) (h.2 i hi)⟩

/-- those that wait for i, one behind the other -/
def waitsGo (ops : Array Oper) (i : Nat) : List Nat → List Nat → List Nat
  | [], R => R
  | j :: r, R => waitsGo ops i r (match ops[j]? with
    | some o => bif o.after.any (fun e => Region.binds .any e && (Nat.beq e.on i || R.contains e.on)) then j :: R else R
    | none => R)
/-- s waits for i -/
def waits (ops : Array Oper) (i s : Nat) : Bool := (waitsGo ops i (List.range ops.size) []).contains s
inductive WaitsT (ops : Array Oper) (i : Nat) : Nat → Prop
  | one {s : Nat} {o : Oper} {e : Edge} (ho : ops[s]? = some o) (he : e ∈ o.after) (hb : Region.binds .any e = true) (hi : e.on = i) : WaitsT ops i s
  | step {s : Nat} {o : Oper} {e : Edge} (ho : ops[s]? = some o) (he : e ∈ o.after) (hb : Region.binds .any e = true) (h : WaitsT ops i e.on) : WaitsT ops i s
theorem waitsGo_spec {ops : Array Oper} {i : Nat} : ∀ (js R : List Nat), (∀ s ∈ R, WaitsT ops i s) → ∀ s ∈ waitsGo ops i js R, WaitsT ops i s
  | [], R, h => h
  | j :: r, R, h => by
    refine waitsGo_spec r _ ?_
    cases ho : ops[j]? with
    | none => exact h
    | some o =>
      simp only
      cases hc : o.after.any (fun e => Region.binds .any e && (Nat.beq e.on i || R.contains e.on)) with
      | false => exact h
      | true =>
        intro s hs
        rcases List.mem_cons.1 hs with rfl | hs
        · obtain ⟨e, he, hb⟩ := Array.any_eq_true'.1 hc
          simp only [Bool.and_eq_true, Bool.or_eq_true] at hb
          rcases hb.2 with hi | hr
          · exact .one ho he hb.1 (Nat.eq_of_beq_eq_true hi)
          · exact .step ho he hb.1 (h _ (List.contains_iff_mem.1 hr))
        · exact h s hs
theorem waits_spec {ops : Array Oper} {i s : Nat} (h : waits ops i s = true) : WaitsT ops i s := waitsGo_spec _ [] (fun _ h => by cases h) s (List.contains_iff_mem.1 h)
/-- what has run has run behind what it waits for -/
def Closed (ops : Array Oper) (listed : Array Bool) : Prop := ∀ (j : Nat) (o : Oper), ops[j]? = some o → listed.getD j false = true → ∀ e ∈ o.after, Region.binds .any e = true → listed.getD e.on false = true
def closedB (ops : Array Oper) (listed : Array Bool) : Bool := (List.range ops.size).all fun j => !listed.getD j false || match ops[j]? with
  | some o => o.after.all fun e => !Region.binds .any e || listed.getD e.on false
  | none => true
theorem closed_of {ops : Array Oper} {listed : Array Bool} (h : closedB ops listed = true) : Closed ops listed := by
  intro j o ho hj e he hb
  have h1 := List.all_eq_true.1 h j (List.mem_range.2 (Array.getElem?_eq_some_iff.1 ho).1)
  rw [hj, ho] at h1
  simp only [Bool.not_true, Bool.false_or] at h1
  have h2 := (Array.all_eq_true_iff_forall_mem.1 h1) e he
  rw [hb] at h2
  simpa using h2
theorem getD_set_true {listed : Array Bool} {j k : Nat} (h : listed.getD k false = true) : (listed.setIfInBounds j true).getD k false = true := by
  by_cases e : j = k
  · subst e
    rcases Nat.lt_or_ge j listed.size with h' | h'
    · simp [h']
    · simp [h'] at h
  · simp [Array.getElem?_setIfInBounds_ne e] at h ⊢
    exact h
theorem Closed.set {ops : Array Oper} {listed : Array Bool} (h : Closed ops listed) {j : Nat} (hj : j ∈ Region.ready .any ops listed) : Closed ops (listed.setIfInBounds j true) := by
  intro k o ho hk e he hb
  obtain ⟨_, oj, hoj, hall⟩ := mem_ready.1 hj
  by_cases ekj : k = j
  · subst ekj
    rw [hoj] at ho
    cases ho
    exact getD_set_true (hall e he hb)
  · refine getD_set_true (h k o ho ?_ e he hb)
    simp [Array.getElem?_setIfInBounds_ne (Ne.symm ekj)] at hk ⊢
    exact hk
theorem WaitsT.no {ops : Array Oper} {listed : Array Bool} {i : Nat} (hc : Closed ops listed) {s : Nat} (h : WaitsT ops i s) : ∀ o, ops[s]? = some o → (∀ e ∈ o.after, Region.binds .any e = true → listed.getD e.on false = true) → listed.getD i false = true := by
  induction h with
  | one ho he hb hi =>
    intro o ho' hall
    rw [ho] at ho'
    cases ho'
    rw [← hi]
    exact hall _ he hb
  | step ho he hb h ih =>
    intro o ho' hall
    rw [ho] at ho'
    cases ho'
    have h1 := hall _ he hb
    cases h with
    | one ho2 he2 hb2 hi2 => exact ih _ ho2 fun e he hb => hc _ _ ho2 h1 e he hb
    | step ho2 he2 hb2 h2 => exact ih _ ho2 fun e he hb => hc _ _ ho2 h1 e he hb

theorem getD_set_keep {listed : Array Bool} {j s : Nat} (h : j ≠ s) : (listed.setIfInBounds j true).getD s true = listed.getD s true := getD_set_ne true h

theorem wpAnyS_take {i : Nat} {oi : Oper} {v : Value} (hi : ops[i]? = some oi) (hsel : Region.noSelect ops = true) (hQ : ∀ c a w, Q (.panic c) (a.put oi.dst v) w → Q (.panic c) a w)
    (hw : (St.all fun s => waits ops i s && s != i) = true) :
    ∀ (m : Nat) (listed : Array Bool) (a : Act) (w : World), Closed ops listed → (∀ j oj, ops[j]? = some oj → j ≠ i → listed.getD j true = false → (∀ e ∈ oj.after, Region.binds .any e = true → e.on ≠ i) → oi.apart ops oj = true) →
      i ∈ Region.ready .any ops listed → (St.all fun s => !listed.getD s true) = true → YieldsIf P ops S oi v a → S w →
      wpAnyS P ops Q S St m (listed.setIfInBounds i true) (a.put oi.dst v) w → wpAnyS P ops Q S St (m + 1) listed a w := by
  have hsi := Region.noSelect_spec hsel i oi
  intro m
  induction m with
  | zero =>
    intro listed a w hcl _ hr hst hy hS H
    refine ⟨fun h => (by rw [h] at hr; cases hr), fun j hj => ?_⟩
    by_cases hji : j = i
    · subst hji
      exact hy.wpOp hi hS ⟨fun _ => hS, H⟩
    · have h2 := ready_mono hj hji
      rw [H.1] at h2
      cases h2
  | succ m ih =>
    intro listed a w hcl hfree hr hst hy hS H
    refine ⟨fun h => (by rw [h] at hr; cases hr), fun j hj => ?_⟩
    by_cases hji : j = i
    · subst hji
      exact hy.wpOp hi hS ⟨fun _ => hS, H⟩
    · have h1 := H.2 j (ready_mono hj hji)
      obtain ⟨hjun, oj, hoj, hall⟩ := mem_ready.1 hj
      have hnot : ∀ e ∈ oj.after, Region.binds .any e = true → e.on ≠ i := fun e he hb heq => by
        have g1 := hall e he hb
        have g0 := (mem_ready.1 hr).1
        rw [heq] at g1
        rcases Nat.lt_or_ge i listed.size with h' | h'
        · simp [h'] at g0 g1
          rw [g0] at g1
          cases g1
        · simp [Array.getElem?_eq_none h'] at g1
      have hjs : ∀ s ∈ St, j ≠ s := fun s hs e => by
        subst e
        have := List.all_eq_true.1 hw j hs
        simp only [Bool.and_eq_true] at this
        have h0 := (waits_spec this.1).no hcl oj hoj hall
        have g0 := (mem_ready.1 hr).1
        rcases Nat.lt_or_ge i listed.size with h' | h'
        · simp [h'] at g0 h0
          rw [g0] at h0
          cases h0
        · simp [h'] at h0
      have his : ∀ s ∈ St, i ≠ s := fun s hs e => by
        subst e
        have := List.all_eq_true.1 hw i hs
        simp at this
      have hst' : (St.all fun s => !(listed.setIfInBounds j true).getD s true) = true := List.all_eq_true.2 fun s hs => by
        rw [getD_set_keep (hjs s hs)]
        exact List.all_eq_true.1 hst s hs
      have hst2 : (St.all fun s => !((listed.setIfInBounds i true).setIfInBounds j true).getD s true) = true := List.all_eq_true.2 fun s hs => by
        rw [getD_set_keep (hjs s hs), getD_set_keep (his s hs)]
        exact List.all_eq_true.1 hst s hs
      have h2 := wpOp_putIf hoj (hfree j oj hoj hji hjun hnot) (fun cs b => Region.noSelect_spec hsel i oi cs b hi) (fun cs b => Region.noSelect_spec hsel j oj cs b hoj) hQ hy h1
      have hfree' : ∀ k ok, ops[k]? = some ok → k ≠ i → (listed.setIfInBounds j true).getD k true = false → (∀ e ∈ ok.after, Region.binds .any e = true → e.on ≠ i) → oi.apart ops ok = true := fun k ok hk hki hun hno => by
        refine hfree k ok hk hki ?_ hno
        by_cases hjk : j = k
        · subst hjk
          exact hjun
        · rwa [getD_set_ne true hjk] at hun
      refine wpOp_mono (fun a' w' h3 => ?_) h2
      have hS' : S w' := h3.2.1 hst2
      refine ⟨fun _ => hS', ih (listed.setIfInBounds j true) a' w' (hcl.set hj) hfree' (ready_mono hr (Ne.symm hji)) hst' h3.1 hS' ?_⟩
      rw [Array.setIfInBounds_comm _ _ hji]
      exact h3.2.2
theorem wpAnyS_pure {i : Nat} {oi : Oper} {v : Value} (hi : ops[i]? = some oi) (hsel : Region.noSelect ops = true) (hQ : ∀ c a w, Q (.panic c) (a.put oi.dst v) w → Q (.panic c) a w)
    (hw : (St.all fun s => s != i) = true) :
    ∀ (m : Nat) (listed : Array Bool) (a : Act) (w : World), (∀ j oj, ops[j]? = some oj → j ≠ i → listed.getD j true = false → (∀ e ∈ oj.after, Region.binds .any e = true → e.on ≠ i) → oi.apart ops oj = true) →
      i ∈ Region.ready .any ops listed → YieldsIf P ops (fun _ => True) oi v a → ((St.all fun s => !listed.getD s true) = true → S w) →
      wpAnyS P ops Q S St m (listed.setIfInBounds i true) (a.put oi.dst v) w → wpAnyS P ops Q S St (m + 1) listed a w := by
  have ne : ∀ s ∈ St, i ≠ s := fun s hs e => by
    subst e
    have := List.all_eq_true.1 hw i hs
    simp at this
  have keep : ∀ (listed : Array Bool), (St.all fun s => !(listed.setIfInBounds i true).getD s true) = true → (St.all fun s => !listed.getD s true) = true := fun listed h => List.all_eq_true.2 fun s hs => by
    have := List.all_eq_true.1 h s hs
    rwa [getD_set_keep (ne s hs)] at this
  have back : ∀ (listed : Array Bool), (St.all fun s => !listed.getD s true) = true → (St.all fun s => !(listed.setIfInBounds i true).getD s true) = true := fun listed h => List.all_eq_true.2 fun s hs => by
    rw [getD_set_keep (ne s hs)]
    exact List.all_eq_true.1 h s hs
  intro m
  induction m with
  | zero =>
    intro listed a w _ hr hy hS H
    refine ⟨fun h => (by rw [h] at hr; cases hr), fun j hj => ?_⟩
    by_cases hji : j = i
    · subst hji
      exact hy.wpOp hi trivial ⟨fun h => hS (keep listed h), H⟩
    · have h2 := ready_mono hj hji
      rw [H.1] at h2
      cases h2
  | succ m ih =>
    intro listed a w hfree hr hy hS H
    refine ⟨fun h => (by rw [h] at hr; cases hr), fun j hj => ?_⟩
    by_cases hji : j = i
    · subst hji
      exact hy.wpOp hi trivial ⟨fun h => hS (keep listed h), H⟩
    · have h1 := H.2 j (ready_mono hj hji)
      obtain ⟨hjun, oj, hoj, hall⟩ := mem_ready.1 hj
      have hnot : ∀ e ∈ oj.after, Region.binds .any e = true → e.on ≠ i := fun e he hb heq => by
        have g1 := hall e he hb
        have g0 := (mem_ready.1 hr).1
        rw [heq] at g1
        rcases Nat.lt_or_ge i listed.size with h' | h'
        · simp [h'] at g0 g1
          rw [g0] at g1
          cases g1
        · simp [Array.getElem?_eq_none h'] at g1
      have h2 := wpOp_putIf hoj (hfree j oj hoj hji hjun hnot) (fun cs b => Region.noSelect_spec hsel i oi cs b hi) (fun cs b => Region.noSelect_spec hsel j oj cs b hoj) hQ hy h1
      have hfree' : ∀ k ok, ops[k]? = some ok → k ≠ i → (listed.setIfInBounds j true).getD k true = false → (∀ e ∈ ok.after, Region.binds .any e = true → e.on ≠ i) → oi.apart ops ok = true := fun k ok hk hki hun hno => by
        refine hfree k ok hk hki ?_ hno
        by_cases hjk : j = k
        · subst hjk
          exact hjun
        · rwa [getD_set_ne true hjk] at hun
      refine wpOp_mono (fun a' w' h3 => ?_) h2
      have hS' : (St.all fun s => !(listed.setIfInBounds j true).getD s true) = true → S w' := fun h => h3.2.1 (by
        rw [Array.setIfInBounds_comm _ _ (Ne.symm hji)]
        exact back _ h)
      refine ⟨hS', ih (listed.setIfInBounds j true) a' w' hfree' (ready_mono hr (Ne.symm hji)) h3.1 hS' ?_⟩
      rw [Array.setIfInBounds_comm _ _ hji]
      exact h3.2.2

theorem not_yet {b : Bool} {p : Prop} (h : b = false) : b = true → p := fun h' => by rw [h] at h'; cases h'
variable {n i : Nat} {l : List (Nat × Value)} {a : Act} {w w0 : World} {d : Option Tmp} {L L0 : List Ent}
abbrev HQ (F : Act → World → Prop) : Exit → Act → World → Prop := fun e a w => e = .normal ∧ F a w

theorem h_start {F : Act → World → Prop} {id : Nat} (S : World → Prop) (St : List Nat) (hm : P.follows .mixedOrders = true) (m : Nat) (hs : ops.size = m)
    (h : wpAnyS P ops (fun e a w => e = .normal ∧ F a w) S St m (Array.replicate m false) a w.drew) :
    (Code.region id ops true).wp P (fun e a w => e = .normal ∧ F a w) a w :=
  draw_any hm m hs (wpAny_of_S _ _ _ _ h)
theorem h_end {F : Act → World → Prop} {m : Nat} {listed : Array Bool} (hr : Region.ready .any ops listed = []) (h : F a w) : wpAnyS P ops (fun e a w => e = .normal ∧ F a w) S St m listed a w := by
  cases m with
  | zero => exact ⟨hr, rfl, h⟩
  | succ m => exact ⟨fun _ => ⟨rfl, h⟩, fun i hi => by rw [hr] at hi; cases hi⟩
/-- an operation that yields its value as long as S holds -/
theorem h_read {F : Act → World → Prop} {m : Nat} {listed listed' : Array Bool} (E : Env a n l) {s : Sem Next} {v : Value} (i : Nat)
    (hr : opAt ops n i l = some (.run d s)) (hv : ∀ w, S w → s.run P w = .ok (.value v) w)
    (hc : (Region.noSelect ops && Region.free .any ops listed i && (Region.ready .any ops listed).contains i && (St.all fun s => waits ops i s && s != i) && (St.all fun s => !listed.getD s true) && closedB ops listed) = true) (hl : listed.setIfInBounds i true = listed') (hS : S w)
    (next : ∀ a', Env a' n (putl d v l) → wpAnyS P ops (fun e a w => e = .normal ∧ F a w) S St m listed' a' w) :
    wpAnyS P ops (fun e a w => e = .normal ∧ F a w) S St (m + 1) listed a w := by
  obtain ⟨o, ho, hw, rfl, hs, hf, _⟩ := opAt_run E hr
  simp only [Bool.and_eq_true] at hc
  subst hl
  exact wpAnyS_take ho hc.1.1.1.1.1 (fun _ _ _ h => by cases h.1) hc.1.1.2 m listed a w (closed_of hc.2) (Region.free_spec ho hc.1.1.1.1.2) (by simpa using hc.1.1.1.2) hc.1.2 (.inl ⟨hw, fun w hS => by rw [hs]; exact hv w hS⟩) hS (next _ (E.put v hf))
/-- an operation that looks at no memory -/
theorem h_free {F : Act → World → Prop} {m : Nat} {listed listed' : Array Bool} (E : Env a n l) {s : Sem Next} {v : Value} (i : Nat)
    (hr : opAt ops n i l = some (.run d s)) (hv : ∀ w, s.run P w = .ok (.value v) w)
    (hc : (Region.noSelect ops && Region.free .any ops listed i && (Region.ready .any ops listed).contains i && (St.all fun s => s != i)) = true) (hl : listed.setIfInBounds i true = listed') (hS : (St.all fun s => !listed.getD s true) = true → S w)
    (next : ∀ a', Env a' n (putl d v l) → wpAnyS P ops (fun e a w => e = .normal ∧ F a w) S St m listed' a' w) :
    wpAnyS P ops (fun e a w => e = .normal ∧ F a w) S St (m + 1) listed a w := by
  obtain ⟨o, ho, hw, rfl, hs, hf, _⟩ := opAt_run E hr
  simp only [Bool.and_eq_true] at hc
  subst hl
  exact wpAnyS_pure ho hc.1.1.1 (fun _ _ _ h => by cases h.1) hc.2 m listed a w (Region.free_spec ho hc.1.1.2) (by simpa using hc.1.2) (.inl ⟨hw, fun w _ => by rw [hs]; exact hv w⟩) hS (next _ (E.put v hf))
theorem h_skip {F : Act → World → Prop} {m : Nat} {listed listed' : Array Bool} (E : Env a n l) (i : Nat)
    (hr : opAt ops n i l = some (.skip d))
    (hc : (Region.noSelect ops && Region.free .any ops listed i && (Region.ready .any ops listed).contains i && (St.all fun s => s != i)) = true) (hl : listed.setIfInBounds i true = listed') (hS : (St.all fun s => !listed.getD s true) = true → S w)
    (next : ∀ a', Env a' n (putl d undef l) → wpAnyS P ops (fun e a w => e = .normal ∧ F a w) S St m listed' a' w) :
    wpAnyS P ops (fun e a w => e = .normal ∧ F a w) S St (m + 1) listed a w := by
  obtain ⟨o, ho, hw, rfl, hf⟩ := opAt_skip E hr
  simp only [Bool.and_eq_true] at hc
  subst hl
  exact wpAnyS_pure ho hc.1.1.1 (fun _ _ _ h => by cases h.1) hc.2 m listed a w (Region.free_spec ho hc.1.1.2) (by simpa using hc.1.2) (.inr ⟨hw, rfl⟩) hS (next _ (E.put undef hf))
theorem h_ways {m : Nat} {listed : Array Bool} (is : List Nat) (hr : Region.ready .any ops listed = is) (hn : is.isEmpty = false)
    (h : AllWays (fun i => ∀ listed', listed.setIfInBounds i true = listed' → wpOp P ops Q i (fun a' w' => ((St.all fun s => !listed'.getD s true) = true → S w') ∧ wpAnyS P ops Q S St m listed' a' w') a w) is) : wpAnyS P ops Q S St (m + 1) listed a w :=
  ⟨fun h0 => (by rw [hr] at h0; subst h0; cases hn), fun i hi => AllWays.mem h i (hr ▸ hi) _ rfl⟩
theorem h_at {m : Nat} {listed listed' : Array Bool} (i : Nat) (hr : Region.ready .any ops listed = [i]) (hl : listed.setIfInBounds i true = listed')
    (h : wpOp P ops Q i (fun a' w' => ((St.all fun s => !listed'.getD s true) = true → S w') ∧ wpAnyS P ops Q S St m listed' a' w') a w) : wpAnyS P ops Q S St (m + 1) listed a w :=
  h_ways [i] hr rfl ⟨fun _ hl' => by subst hl hl'; exact h, trivial⟩
theorem h_name {m : Nat} {listed : Array Bool} (h : ∀ G : Nat → Array Bool → Act → World → Prop, G = wpAnyS P ops Q S St → G m listed a w) : wpAnyS P ops Q S St m listed a w := h _ rfl
theorem h_from {G : Nat → Array Bool → Act → World → Prop} (hG : G = wpAnyS P ops Q S St) {m : Nat} {listed : Array Bool} (h : wpAnyS P ops Q S St m listed a w) : G m listed a w := hG ▸ h
theorem h_to {G : Nat → Array Bool → Act → World → Prop} (hG : G = wpAnyS P ops Q S St) {m : Nat} {listed listed' : Array Bool} (hl : listed = listed') (h : G m listed' a w) : wpAnyS P ops Q S St m listed a w := by subst hG hl; exact h

theorem run_loadAgg2 {t : TypeId} {ad : Addr} {cs : List Value} {m : Nat} (hm : cs.length = m) (ht : (fun w => (isAgg t).run P w) = fun w => .ok true w) (hs : (fun w => (sizeOf t).run P w) = fun w => .ok m w) (hc : ∀ j v, cs[j]? = some v → w.cell? (ad.add j) = some v) :
    (Instr.loadAt t (.pointer (some ad))).run P w = .ok (.agg cs.toArray) w := by
  subst hm
  exact run_loadAgg ht hs hc
theorem run_loadel {t : TypeId} {ad A : Addr} {ao : Option Addr} {xs : List Value} {o : Nat} {v : Value} (hA : A = ad.add o) (hr : Reads w ao xs) (ha : ao = some ad) (hv : xs[o]? = some v) (ht : (fun w => (isAgg t).run P w) = fun w => .ok false w) :
    (Instr.loadAt t (.pointer (some A))).run P w = .ok v w := by
  subst hA ha
  exact run_load1 ht (hr o v hv)
theorem run_str2 {src dst e : TypeId} {ao : Option Addr} {cap p : Nat} {bs : List UInt8} (hp : p = bs.length) (hs : P.underlying src = some (.slice e)) (he : P.underlying e = some (.int .u8)) (hd : P.underlying dst = some .string)
    (hr : Reads w ao (bys bs)) (hz : ao = none → p = 0) : (convert src dst (.slice ao p cap)).run P w = .ok (.string (bstr bs)) w := by
  subst hp
  exact run_str hs he hd hr hz
end
end Go.Dbr

/- Steps over operations without memory, by the slots that are kept. -/


namespace Go.Dbr
open Go Go.RowKit
def keepL (ls : List Nat) (l : List (Nat × Value)) : List (Nat × Value) := ls.filterMap fun i => (look l i).map fun v => (i, v)
theorem look_keep {ls : List Nat} {l : List (Nat × Value)} {t : Nat} {v : Value} (h : look (keepL ls l) t = some v) : look l t = some v := by
  induction ls with
  | nil => cases h
  | cons i r ih =>
    unfold keepL at h ih
    rw [List.filterMap_cons] at h
    cases hx : look l i with
    | none =>
      rw [hx] at h
      exact ih h
    | some u =>
      rw [hx] at h
      simp only [Option.map_some] at h
      by_cases e : i = t
      · subst e
        rw [look_self] at h
        rw [hx, h]
      · rw [look_other _ _ e] at h
        exact ih h
theorem Env.keep {a : Act} {n : Nat} {l : List (Nat × Value)} (E : Env a n l) (ls : List Nat) : Env a n (keepL ls l) := ⟨E.size, E.defers, fun i v h => E.slot i v (look_keep h)⟩
section
variable {P : Program} {ops : Array Oper} {Q : Exit → Act → World → Prop} {n i : Nat} {l : List (Nat × Value)} {a : Act} {w : World}
end
end Go.Dbr
