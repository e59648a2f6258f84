/- Bytes in strings; elements of slices. -/
import Derived.Test.YtfcfgbejpcmmkaaDoorSeq
namespace Go.Dbr
open Go Go.RowKit

theorem ret_u8 {x y : UInt8} (h : x = y) : Ending.returned (.int .u8 ((UInt8.toNat x : Nat) : Int)) = .returned (.int .u8 ((UInt8.toNat y : Nat) : Int)) := by rw [h]
def bstr (l : List UInt8) : ByteArray := ⟨l.toArray⟩
theorem bstr_toList (l : List UInt8) : ByteArray.toList (bstr l) = l := by
  have h : ∀ (b : ByteArray), b.toList = b.data.toList := fun b => by
    simp [ByteArray.toList]
    have key : ∀ (n i : Nat) (r : List UInt8), b.data.size - i = n → ByteArray.toList.loop b i r = r.reverse ++ b.data.toList.drop i := by
      intro n
      induction n with
      | zero =>
        intro i r hn
        rw [ByteArray.toList.loop]
        have : ¬ i < b.size := by show ¬ i < b.data.size; omega
        rw [if_neg this, List.drop_eq_nil_of_le (by simp; omega), List.append_nil]
      | succ n ih =>
        intro i r hn
        rw [ByteArray.toList.loop]
        have hi : i < b.data.size := by omega
        have hi' : i < b.size := hi
        rw [if_pos hi', ih (i + 1) _ (by omega), List.reverse_cons, List.append_assoc]
        congr 1
        have h2 := List.drop_eq_getElem_cons (l := b.data.toList) (i := i) (by simpa using hi)
        rw [h2]
        simp only [ByteArray.get!, Array.getElem_toList, getElem!_pos b.data i hi]
        rfl
    have := key (b.data.size) 0 [] (by omega)
    simpa using this
  rw [h]
  rfl
theorem bstr_eq (l m : List UInt8) : (ByteArray.toList (bstr l) == ByteArray.toList (bstr m)) = (l == m) := by rw [bstr_toList, bstr_toList]
theorem bstr_size (l : List UInt8) : (bstr l).size = l.length := rfl
theorem bstr_append (l m : List UInt8) : bstr l ++ bstr m = bstr (l ++ m) := by
  show ByteArray.append _ _ = _
  simp [bstr, ByteArray.append]

theorem cutAt_zero (ao : Option Addr) (cap sz : Nat) : cutAt ao cap 0 sz = ao := by
  unfold cutAt
  split
  · rfl
  · cases ao with
    | none => rfl
    | some ad => simp [Addr.add]

section
variable {P : Program} {ops : Array Oper} {Q : Exit → Act → World → Prop} {n i : Nat} {l : List (Nat × Value)} {a : Act} {w w0 : World} {d : Option Tmp} {L L0 : List Ent} {K : Act → World → Prop}

theorem run_str {src dst e : TypeId} {ao : Option Addr} {cap : Nat} {bs : List UInt8} (hs : P.underlying src = some (.slice e)) (he : P.underlying e = some (.int .u8)) (hd : P.underlying dst = some .string)
    (hr : Reads w ao (bys bs)) (hz : ao = none → bs.length = 0) : (convert src dst (.slice ao bs.length cap)).run P w = .ok (.string (bstr bs)) w := by
  cases ao with
  | none =>
    have : bs = [] := List.eq_nil_of_length_eq_zero (hz rfl)
    subst this
    exact run_convert_bytes_nil w src e hs he _ _ dst hd
  | some ad =>
    have := run_convert_bytes_back (P := P) w src dst e ad cap bs hs he hd (fun j hj => hr j _ (bys_get hj))
    exact this

/-- string(b) -/
theorem op_str (E : Env a n l) {src dst e : TypeId} {ao : Option Addr} {cap p : Nat} {bs : List UInt8} (h : opAt ops n i l = some (.run d (nv (convert src dst (.slice ao p cap))))) (hp : p = bs.length)
    (hs : P.underlying src = some (.slice e)) (he : P.underlying e = some (.int .u8)) (hd : P.underlying dst = some .string) (hr : Reads w ao (bys bs)) (hz : ao = none → p = 0)
    (next : ∀ a', Env a' n (putl d (.string (bstr bs)) l) → K a' w) : wpOp P ops Q i K a w := by
  subst hp
  exact op_val E h (run_str hs he hd hr hz) next

/-- the address of an element -/
theorem run_indexAt {t e : TypeId} {sz : Nat} {k : IntKind} (hu : P.underlying t = some (.slice e)) (hs : (fun w => (sizeOf e).run P w) = fun w => .ok sz w) (ad : Addr) (len cap : Nat) (ix : Int) (h0 : 0 ≤ ix) (h1 : ix < len) :
    (Instr.indexAt t (.slice (some ad) len cap) (.int k ix)).run P w = .ok (.pointer (some (ad.add (ix.toNat * sz)))) w := by
  have hs' : (sizeOf e).run P w = .ok sz w := congrFun hs w
  simp [Instr.indexAt, asIntOf, run_underlying hu, h0, h1, hs']

theorem op_index (E : Env a n l) {t e : TypeId} {sz len cap j : Nat} {ao : Option Addr} {k : IntKind} {ix : Int} (h : opAt ops n i l = some (.run d (nv (Instr.indexAt t (.slice ao len cap) (.int k ix))))) (hz : ao = none → len = 0)
    (hu : P.underlying t = some (.slice e)) (hs : (fun w => (sizeOf e).run P w) = fun w => .ok sz w) (hj : ix = (j : Int)) (h1 : j < len) {jo : Nat} (hjo : j * sz = jo)
    (next : ∀ a' ad, ao = some ad → Env a' n (putl d (.pointer (some (ad.add jo))) l) → K a' w) : wpOp P ops Q i K a w := by
  subst hjo
  cases ao with
  | none => have := hz rfl; omega
  | some ad =>
    refine op_val E h (run_indexAt hu hs ad len cap ix (by omega) (by omega)) fun a' E' => next a' ad rfl ?_
    subst hj
    simpa using E'

/-- an element of a slice is loaded -/
theorem op_loadel (E : Env a n l) {t : TypeId} {ad : Addr} {ao : Option Addr} {xs : List Value} {j : Nat} {v : Value} (h : opAt ops n i l = some (.run d (nv (Instr.loadAt t (.pointer (some (ad.add j)))))))
    (hr : Reads w ao xs) (ha : ao = some ad) (hv : xs[j]? = some v) (ht : (fun w => (isAgg t).run P w) = fun w => .ok false w) (next : ∀ a', Env a' n (putl d v l) → K a' w) : wpOp P ops Q i K a w := by
  subst ha
  exact op_load E h (hr j v hv) ht next

theorem Heap.setVec {k : Nat} {ad : Addr} {cap sz j : Nat} {xs : List Value} {T : TypeId} (v : Value) (h : Heap w L) (hk : L[k]? = some (.vec (some ad) cap sz xs T)) (hj : j < xs.length) :
    Ev w L (w.setCell (ad.add j) v) (L.set k (.vec (some ad) cap sz (xs.set j v) T)) := by
  obtain ⟨h1, h2, h3, cur, fz, h4, hfz, h5, h6⟩ := h.holds k _ hk
  obtain ⟨b, o, sp⟩ := ad
  simp only at h1 h4 h5 h6
  subst h1
  rw [add_off]
  refine Ev.change h hk (chg_setCell w ⟨b, o + j, none⟩ v rfl) ⟨rfl, h2, by simpa using h3, cur.setIfInBounds (o + j) v, fz, heap_setCell_fz v h4, by simpa using hfz, by simpa using h5, fun m hm => ?_⟩ (fun c hc => .inl hc)
  simp only [List.length_set] at hm
  by_cases hmj : m = j
  · subst hmj
    have h7 : o + m < cur.size := by omega
    rw [Array.getElem?_setIfInBounds_self_of_lt h7, List.getElem?_set_self hm]
  · have h7 : o + j ≠ o + m := by omega
    rw [Array.getElem?_setIfInBounds_ne h7, List.getElem?_set_ne (Ne.symm hmj)]
    exact h6 m hm

theorem run_storeel {k : Nat} {ad : Addr} {cap sz j : Nat} {xs : List Value} {T t : TypeId} {v : Value} (hs : (fun w => (sizeOf t).run P w) = fun w => .ok 1 w) (h : Heap w L) (hk : L[k]? = some (.vec (some ad) cap sz xs T))
    (hj : j < xs.length) (hv : v.oneCell' = true) : (Instr.storeAt t (.pointer (some (ad.add j))) v).run P w = .ok () (w.setCell (ad.add j) v) := by
  have hcell : ∃ u, w.cell? (ad.add j) = some u := ⟨_, h.reads hk j _ (List.getElem?_eq_getElem hj)⟩
  obtain ⟨u, hu⟩ := hcell
  obtain ⟨h1, h2, h3, cur, fz, h4, hfz, h5, h6⟩ := h.holds k _ hk
  obtain ⟨b, o, sp⟩ := ad
  simp only at h1 h4 h5 h6
  subst h1
  have hs1 : (sizeOf t).run P w = .ok 1 w := congrFun hs w
  have hc : v.cells = #[v] := by cases v <;> first | rfl | (simp [Value.oneCell'] at hv)
  rw [add_off] at hu ⊢
  have hfr := frozen_fz (j := o + j) h4 hfz (by omega)
  simp [Instr.storeAt, Instr.sureAddr, storeVar, hc, hs1, storeCells, add_off, run_store P w _ v _ hv, hu, hfr]

/-- an element of an owned slice is stored -/
theorem op_storeel (E : Env a n l) {t : TypeId} {ad : Addr} {ao : Option Addr} {k cap sz j : Nat} {xs : List Value} {T : TypeId} {v : Value} (h : opAt ops n i l = some (.run d (nu (Instr.storeAt t (.pointer (some (ad.add j))) v))))
    (H : Ev w0 L0 w L) (hk : L[k]? = some (.vec ao cap sz xs T)) (ha : ao = some ad) (hj : j < xs.length) (hs : (fun w => (sizeOf t).run P w) = fun w => .ok 1 w) (hv : v.oneCell' = true)
    (next : ∀ a' w', Env a' n (putl d undef l) → Ev w0 L0 w' (L.set k (.vec ao cap sz (xs.set j v) T)) → K a' w') : wpOp P ops Q i K a w := by
  subst ha
  exact any_unit E h (run_nu (run_storeel hs H.heap hk hj hv)) fun a' E' => next a' _ E' (H.trans (H.heap.setVec v hk hj))

/-- x[lo:hi] -/
theorem op_slice (E : Env a n l) {t e : TypeId} {sz len cap lo hi : Nat} {ao : Option Addr} {lov hiv : Option Value} (h : opAt ops n i l = some (.run d (nv (Instr.sliceAt t (.slice ao len cap) lov hiv none))))
    (hu : P.underlying t = some (.slice e)) (hs : (fun w => (sizeOf e).run P w) = fun w => .ok sz w) (h1 : lo ≤ hi) (h2 : hi ≤ cap)
    (hlo : lov = none ∧ lo = 0 ∨ ∃ k, lov = some (.int k lo)) (hhi : hiv = none ∧ hi = len ∨ ∃ k, hiv = some (.int k hi))
    (next : ∀ a', Env a' n (putl d (.slice (cutAt ao cap lo sz) (hi - lo) (cap - lo)) l) → K a' w) : wpOp P ops Q i K a w :=
  op_val E h (run_sliceAt hu hs ao len cap lo hi h1 h2 lov hiv hlo hhi) next

theorem op_slice0 (E : Env a n l) {t e : TypeId} {sz len cap hi : Nat} {ao : Option Addr} {lov hiv : Option Value} (h : opAt ops n i l = some (.run d (nv (Instr.sliceAt t (.slice ao len cap) lov hiv none))))
    (hu : P.underlying t = some (.slice e)) (hs : (fun w => (sizeOf e).run P w) = fun w => .ok sz w) (h2 : hi ≤ cap)
    (hlo : lov = none ∧ 0 = 0 ∨ ∃ k, lov = some (.int k (0 : Nat))) (hhi : hiv = none ∧ hi = len ∨ ∃ k, hiv = some (.int k hi))
    (next : ∀ a', Env a' n (putl d (.slice ao hi cap) l) → K a' w) : wpOp P ops Q i K a w := by
  refine op_slice E h hu hs (Nat.zero_le _) h2 hlo hhi fun a' E' => next a' ?_
  rw [cutAt_zero] at E'
  exact E'

theorem run_shr_u64 (x : UInt64) (k : IntKind) (n : Nat) (hn : n < 64) (w : World) : (Op.shift .shr .u64 ((UInt64.toNat x : Nat) : Int) k ((n : Nat) : Int)).run P w = .ok (.int .u64 ((UInt64.toNat (x >>> UInt64.ofNat n) : Nat) : Int)) w := by
  unfold Op.shift
  have h1 : ¬ (((n : Nat) : Int) < 0) := by omega
  have h2 : min (((n : Nat) : Int)).toNat (IntKind.bits .u64) = n := by simp [IntKind.bits]; omega
  rw [if_neg h1]
  simp only [h2, Sem.run_pure]
  rw [u64_shr (x := x) rfl hn]
theorem run_shr_u8 (x : UInt8) (k : IntKind) (n : Nat) (hn : n < 8) (w : World) : (Op.shift .shr .u8 ((UInt8.toNat x : Nat) : Int) k ((n : Nat) : Int)).run P w = .ok (.int .u8 ((UInt8.toNat (x >>> UInt8.ofNat n) : Nat) : Int)) w := by
  unfold Op.shift
  have h1 : ¬ (((n : Nat) : Int) < 0) := by omega
  have h2 : min (((n : Nat) : Int)).toNat (IntKind.bits .u8) = n := by simp [IntKind.bits]; omega
  rw [if_neg h1]
  simp only [h2, Sem.run_pure]
  rw [u8_shr (x := x) rfl hn]
theorem run_shr_u32 (x : UInt32) (k : IntKind) (n : Nat) (hn : n < 32) (w : World) : (Op.shift .shr .u32 ((UInt32.toNat x : Nat) : Int) k ((n : Nat) : Int)).run P w = .ok (.int .u32 ((UInt32.toNat (x >>> UInt32.ofNat n) : Nat) : Int)) w := by
  unfold Op.shift
  have h1 : ¬ (((n : Nat) : Int) < 0) := by omega
  have h2 : min (((n : Nat) : Int)).toNat (IntKind.bits .u32) = n := by simp [IntKind.bits]; omega
  rw [if_neg h1]
  simp only [h2, Sem.run_pure]
  rw [u32_shr (x := x) rfl hn]
theorem run_shl_u64 (x : UInt64) (k : IntKind) (n : Nat) (hn : n < 64) (w : World) : (Op.shift .shl .u64 ((UInt64.toNat x : Nat) : Int) k ((n : Nat) : Int)).run P w = .ok (.int .u64 ((UInt64.toNat (x <<< UInt64.ofNat n) : Nat) : Int)) w := by
  unfold Op.shift
  have h1 : ¬ (((n : Nat) : Int) < 0) := by omega
  have h2 : min (((n : Nat) : Int)).toNat (IntKind.bits .u64) = n := by simp [IntKind.bits]; omega
  rw [if_neg h1]
  simp only [h2, Sem.run_pure]
  rw [u64_shl (x := x) rfl hn]
theorem run_shl_u32 (x : UInt32) (k : IntKind) (n : Nat) (hn : n < 32) (w : World) : (Op.shift .shl .u32 ((UInt32.toNat x : Nat) : Int) k ((n : Nat) : Int)).run P w = .ok (.int .u32 ((UInt32.toNat (x <<< UInt32.ofNat n) : Nat) : Int)) w := by
  unfold Op.shift
  have h1 : ¬ (((n : Nat) : Int) < 0) := by omega
  have h2 : min (((n : Nat) : Int)).toNat (IntKind.bits .u32) = n := by simp [IntKind.bits]; omega
  rw [if_neg h1]
  simp only [h2, Sem.run_pure]
  rw [u32_shl (x := x) rfl hn]
end
end Go.Dbr
