/- What is handed in to a law, opened: numbers, lists of numbers, texts. (Printed by a program.) -/
import Derived.Test.YtfcfgbejpcmmkaaDoorBytes
import Derived.ProofKit
import Derived.OpenShut
import Derived.SizedLaws
namespace Go.Dbr
open Go Go.RowKit Go.ChangeShapes Go.WideShapes Go.ChangeAt
open Go.ChangeMaps (open_string)

variable {H : Type} {enc : TypeId × Value → H} {P : Program} {W : World}

theorem Ev.below {w w' : World} (h : Ev w [] w' []) : Below w.heap.size w w' :=
  ⟨h.chg.os, h.chg.tape, h.chg.output, h.chg.size, fun k hk => h.chg.block k hk Owns.nil⟩

theorem ro_nil {w : World} {a : Option Addr} {xs : List Value} (h : Reads w a xs) : Ro w [] a xs := ⟨h, fun _ _ _ => Owns.nil⟩

theorem lift_i64 {n : Int} (h : (Lit.int .i64 n).wf = true) : -9223372036854775808 ≤ n ∧ n ≤ 9223372036854775807 := by
  simp [Lit.wf, IntKind.min, IntKind.max, IntKind.signed, IntKind.bits] at h
  omega

theorem lift_string {r : Reach} {b0 : Nat} {t : TypeId} {v : Value} {d : DataW H} {ps : List MemPlace} (hu : P.underlying t = some .string) (hval : Value.okWide P W r b0 t v) (hd : DataW.Trod enc P W 0 (fun _ => true) true t v d ps)
    (hsz : ∀ bs : List UInt8, d = .lit (.string bs) → bs.length ≤ reachBytes) : ∃ l : List UInt8, v = .string (bstr l) ∧ l.length ≤ 140737488351232 := by
  obtain ⟨s, rfl, rfl, _, _⟩ := open_string hu hval hd
  refine ⟨s.data.toList, ?_, hsz _ rfl⟩
  cases s
  rfl

theorem lift_u8 {n : Int} (h : (Lit.int .u8 n).wf = true) : ∃ x : UInt8, n = ((UInt8.toNat x : Nat) : Int) := by
  simp [Lit.wf, IntKind.min, IntKind.max, IntKind.signed, IntKind.bits] at h
  refine ⟨UInt8.ofNat n.toNat, ?_⟩
  rw [UInt8.toNat_ofNat']
  omega

theorem lift_u16 {n : Int} (h : (Lit.int .u16 n).wf = true) : ∃ x : UInt16, n = ((UInt16.toNat x : Nat) : Int) := by
  simp [Lit.wf, IntKind.min, IntKind.max, IntKind.signed, IntKind.bits] at h
  refine ⟨UInt16.ofNat n.toNat, ?_⟩
  rw [UInt16.toNat_ofNat']
  omega

theorem lift_u32 {n : Int} (h : (Lit.int .u32 n).wf = true) : ∃ x : UInt32, n = ((UInt32.toNat x : Nat) : Int) := by
  simp [Lit.wf, IntKind.min, IntKind.max, IntKind.signed, IntKind.bits] at h
  refine ⟨UInt32.ofNat n.toNat, ?_⟩
  rw [UInt32.toNat_ofNat']
  omega

theorem lift_u64 {n : Int} (h : (Lit.int .u64 n).wf = true) : ∃ x : UInt64, n = ((UInt64.toNat x : Nat) : Int) := by
  simp [Lit.wf, IntKind.min, IntKind.max, IntKind.signed, IntKind.bits] at h
  refine ⟨UInt64.ofNat n.toNat, ?_⟩
  rw [UInt64.toNat_ofNat']
  omega

theorem lift_bys {r : Reach} {b0 : Nat} {t e : TypeId} {v : Value} {d : DataW H} {ps : List MemPlace} (hu : P.underlying t = some (.slice e)) (he : P.underlying e = some (.int .u8)) (hc : P.cellsOf e = 1) (hby : P.bytesOf e = 1)
    (hval : Value.okWide P W r b0 t v) (hd : DataW.Trod enc P W 0 (fun _ => true) true t v d ps) (hsz : ∀ elems spare, d = .slice elems spare → (elems.length + spare.length) * P.bytesOf e ≤ reachBytes) :
    ∃ a c, ∃ l : List UInt8, v = .slice a l.length c ∧ InB W [] a c l := by
  obtain ⟨a, len, cap, rfl⟩ := okWide_slice hu hval
  obtain ⟨fuel, hf⟩ := hd
  rcases open_ints hu he hc hf with ⟨hcs, _⟩ | ⟨x, l, c, zs, hcs, _, hl, hm, hz, hx, hcell, hwz⟩
  · simp [Value.cells] at hcs
    obtain ⟨rfl, rfl, rfl⟩ := hcs
    exact ⟨none, 0, [], rfl, ⟨ro_nil rfl, fun _ => rfl, Nat.le_refl _, by simp⟩⟩
  · simp [Value.cells] at hcs
    obtain ⟨rfl, rfl, rfl⟩ := hcs
    simp only [if_true] at hz
    simp only [Prod.mk.injEq] at hx
    have hs := hsz _ _ hx.1
    rw [hby] at hs
    have hlen : ((lits (H := H) .u8 (zs.take len)).length + (lits (H := H) .u8 (zs.drop len)).length) = zs.length := by simp [lits]; omega
    rw [hlen, hz] at hs
    have hll : ((zs.take len).map fun n => UInt8.ofNat n.toNat).length = len := by simp; omega
    have e1 : reachBytes = 140737488351232 := rfl
    rw [e1] at hs
    refine ⟨some x, cap, (zs.take len).map fun n => UInt8.ofNat n.toNat, by rw [hll], ⟨ro_nil ?_, fun h => (by cases h), by rw [hll]; exact hl, by rw [hll]; omega⟩⟩
    · intro j u hj
      have hjl : j < len := by
        have := (List.getElem?_eq_some_iff.1 hj).1
        rw [bys_length, hll] at this
        exact this
      have hjz : j < zs.length := by omega
      have hget : zs.getD j 0 = zs[j] := by simp [List.getD, hjz]
      rw [hcell j hjz, hget]
      have hw := hwz zs[j] (List.getElem_mem hjz)
      obtain ⟨y, hy⟩ := lift_u8 hw
      have h2 : ((zs.take len).map fun n => UInt8.ofNat n.toNat)[j]? = some y := by
        rw [List.getElem?_map, List.getElem?_take, if_pos hjl, List.getElem?_eq_getElem hjz, Option.map_some, hy]
        simp
      simp only [bys, List.getElem?_map, h2, Option.map_some, Option.some.injEq] at hj
      rw [← hj, hy]
      rfl

theorem lift_u16s {r : Reach} {b0 : Nat} {t e : TypeId} {v : Value} {d : DataW H} {ps : List MemPlace} (hu : P.underlying t = some (.slice e)) (he : P.underlying e = some (.int .u16)) (hc : P.cellsOf e = 1) (hby : P.bytesOf e = 2)
    (hval : Value.okWide P W r b0 t v) (hd : DataW.Trod enc P W 0 (fun _ => true) true t v d ps) (hsz : ∀ elems spare, d = .slice elems spare → (elems.length + spare.length) * P.bytesOf e ≤ reachBytes) :
    ∃ a c, ∃ l : List UInt16, v = .slice a l.length c ∧ InU16 W [] a c l := by
  obtain ⟨a, len, cap, rfl⟩ := okWide_slice hu hval
  obtain ⟨fuel, hf⟩ := hd
  rcases open_ints hu he hc hf with ⟨hcs, _⟩ | ⟨x, l, c, zs, hcs, _, hl, hm, hz, hx, hcell, hwz⟩
  · simp [Value.cells] at hcs
    obtain ⟨rfl, rfl, rfl⟩ := hcs
    exact ⟨none, 0, [], rfl, ⟨ro_nil rfl, fun _ => rfl, Nat.le_refl _, by simp⟩⟩
  · simp [Value.cells] at hcs
    obtain ⟨rfl, rfl, rfl⟩ := hcs
    simp only [if_true] at hz
    simp only [Prod.mk.injEq] at hx
    have hs := hsz _ _ hx.1
    rw [hby] at hs
    have hlen : ((lits (H := H) .u16 (zs.take len)).length + (lits (H := H) .u16 (zs.drop len)).length) = zs.length := by simp [lits]; omega
    rw [hlen, hz] at hs
    have hll : ((zs.take len).map fun n => UInt16.ofNat n.toNat).length = len := by simp; omega
    have e1 : reachBytes = 140737488351232 := rfl
    rw [e1] at hs
    refine ⟨some x, cap, (zs.take len).map fun n => UInt16.ofNat n.toNat, by rw [hll], ⟨ro_nil ?_, fun h => (by cases h), by rw [hll]; exact hl, by rw [hll]; omega⟩⟩
    · intro j u hj
      have hjl : j < len := by
        have := (List.getElem?_eq_some_iff.1 hj).1
        rw [u16s_length, hll] at this
        exact this
      have hjz : j < zs.length := by omega
      have hget : zs.getD j 0 = zs[j] := by simp [List.getD, hjz]
      rw [hcell j hjz, hget]
      have hw := hwz zs[j] (List.getElem_mem hjz)
      obtain ⟨y, hy⟩ := lift_u16 hw
      have h2 : ((zs.take len).map fun n => UInt16.ofNat n.toNat)[j]? = some y := by
        rw [List.getElem?_map, List.getElem?_take, if_pos hjl, List.getElem?_eq_getElem hjz, Option.map_some, hy]
        simp
      simp only [u16s, List.getElem?_map, h2, Option.map_some, Option.some.injEq] at hj
      rw [← hj, hy]
      rfl

theorem lift_u32s {r : Reach} {b0 : Nat} {t e : TypeId} {v : Value} {d : DataW H} {ps : List MemPlace} (hu : P.underlying t = some (.slice e)) (he : P.underlying e = some (.int .u32)) (hc : P.cellsOf e = 1) (hby : P.bytesOf e = 4)
    (hval : Value.okWide P W r b0 t v) (hd : DataW.Trod enc P W 0 (fun _ => true) true t v d ps) (hsz : ∀ elems spare, d = .slice elems spare → (elems.length + spare.length) * P.bytesOf e ≤ reachBytes) :
    ∃ a c, ∃ l : List UInt32, v = .slice a l.length c ∧ InU32 W [] a c l := by
  obtain ⟨a, len, cap, rfl⟩ := okWide_slice hu hval
  obtain ⟨fuel, hf⟩ := hd
  rcases open_ints hu he hc hf with ⟨hcs, _⟩ | ⟨x, l, c, zs, hcs, _, hl, hm, hz, hx, hcell, hwz⟩
  · simp [Value.cells] at hcs
    obtain ⟨rfl, rfl, rfl⟩ := hcs
    exact ⟨none, 0, [], rfl, ⟨ro_nil rfl, fun _ => rfl, Nat.le_refl _, by simp⟩⟩
  · simp [Value.cells] at hcs
    obtain ⟨rfl, rfl, rfl⟩ := hcs
    simp only [if_true] at hz
    simp only [Prod.mk.injEq] at hx
    have hs := hsz _ _ hx.1
    rw [hby] at hs
    have hlen : ((lits (H := H) .u32 (zs.take len)).length + (lits (H := H) .u32 (zs.drop len)).length) = zs.length := by simp [lits]; omega
    rw [hlen, hz] at hs
    have hll : ((zs.take len).map fun n => UInt32.ofNat n.toNat).length = len := by simp; omega
    have e1 : reachBytes = 140737488351232 := rfl
    rw [e1] at hs
    refine ⟨some x, cap, (zs.take len).map fun n => UInt32.ofNat n.toNat, by rw [hll], ⟨ro_nil ?_, fun h => (by cases h), by rw [hll]; exact hl, by rw [hll]; omega⟩⟩
    · intro j u hj
      have hjl : j < len := by
        have := (List.getElem?_eq_some_iff.1 hj).1
        rw [u32s_length, hll] at this
        exact this
      have hjz : j < zs.length := by omega
      have hget : zs.getD j 0 = zs[j] := by simp [List.getD, hjz]
      rw [hcell j hjz, hget]
      have hw := hwz zs[j] (List.getElem_mem hjz)
      obtain ⟨y, hy⟩ := lift_u32 hw
      have h2 : ((zs.take len).map fun n => UInt32.ofNat n.toNat)[j]? = some y := by
        rw [List.getElem?_map, List.getElem?_take, if_pos hjl, List.getElem?_eq_getElem hjz, Option.map_some, hy]
        simp
      simp only [u32s, List.getElem?_map, h2, Option.map_some, Option.some.injEq] at hj
      rw [← hj, hy]
      rfl

theorem lift_u64s {r : Reach} {b0 : Nat} {t e : TypeId} {v : Value} {d : DataW H} {ps : List MemPlace} (hu : P.underlying t = some (.slice e)) (he : P.underlying e = some (.int .u64)) (hc : P.cellsOf e = 1) (hby : P.bytesOf e = 8)
    (hval : Value.okWide P W r b0 t v) (hd : DataW.Trod enc P W 0 (fun _ => true) true t v d ps) (hsz : ∀ elems spare, d = .slice elems spare → (elems.length + spare.length) * P.bytesOf e ≤ reachBytes) :
    ∃ a c, ∃ l : List UInt64, v = .slice a l.length c ∧ InU64 W [] a c l := by
  obtain ⟨a, len, cap, rfl⟩ := okWide_slice hu hval
  obtain ⟨fuel, hf⟩ := hd
  rcases open_ints hu he hc hf with ⟨hcs, _⟩ | ⟨x, l, c, zs, hcs, _, hl, hm, hz, hx, hcell, hwz⟩
  · simp [Value.cells] at hcs
    obtain ⟨rfl, rfl, rfl⟩ := hcs
    exact ⟨none, 0, [], rfl, ⟨ro_nil rfl, fun _ => rfl, Nat.le_refl _, by simp⟩⟩
  · simp [Value.cells] at hcs
    obtain ⟨rfl, rfl, rfl⟩ := hcs
    simp only [if_true] at hz
    simp only [Prod.mk.injEq] at hx
    have hs := hsz _ _ hx.1
    rw [hby] at hs
    have hlen : ((lits (H := H) .u64 (zs.take len)).length + (lits (H := H) .u64 (zs.drop len)).length) = zs.length := by simp [lits]; omega
    rw [hlen, hz] at hs
    have hll : ((zs.take len).map fun n => UInt64.ofNat n.toNat).length = len := by simp; omega
    have e1 : reachBytes = 140737488351232 := rfl
    rw [e1] at hs
    refine ⟨some x, cap, (zs.take len).map fun n => UInt64.ofNat n.toNat, by rw [hll], ⟨ro_nil ?_, fun h => (by cases h), by rw [hll]; exact hl, by rw [hll]; omega⟩⟩
    · intro j u hj
      have hjl : j < len := by
        have := (List.getElem?_eq_some_iff.1 hj).1
        rw [u64s_length, hll] at this
        exact this
      have hjz : j < zs.length := by omega
      have hget : zs.getD j 0 = zs[j] := by simp [List.getD, hjz]
      rw [hcell j hjz, hget]
      have hw := hwz zs[j] (List.getElem_mem hjz)
      obtain ⟨y, hy⟩ := lift_u64 hw
      have h2 : ((zs.take len).map fun n => UInt64.ofNat n.toNat)[j]? = some y := by
        rw [List.getElem?_map, List.getElem?_take, if_pos hjl, List.getElem?_eq_getElem hjz, Option.map_some, hy]
        simp
      simp only [u64s, List.getElem?_map, h2, Option.map_some, Option.some.injEq] at hj
      rw [← hj, hy]
      rfl

theorem lift_i64s {r : Reach} {b0 : Nat} {t e : TypeId} {v : Value} {d : DataW H} {ps : List MemPlace} (hu : P.underlying t = some (.slice e)) (he : P.underlying e = some (.int .i64)) (hc : P.cellsOf e = 1) (hby : P.bytesOf e = 8)
    (hval : Value.okWide P W r b0 t v) (hd : DataW.Trod enc P W 0 (fun _ => true) true t v d ps) (hsz : ∀ elems spare, d = .slice elems spare → (elems.length + spare.length) * P.bytesOf e ≤ reachBytes) :
    ∃ a c, ∃ l : List Int, v = .slice a l.length c ∧ InI64 W [] a c l ∧ ∀ x ∈ l, -9223372036854775808 ≤ x ∧ x ≤ 9223372036854775807 := by
  obtain ⟨a, len, cap, rfl⟩ := okWide_slice hu hval
  obtain ⟨fuel, hf⟩ := hd
  rcases open_ints hu he hc hf with ⟨hcs, _⟩ | ⟨x, l, c, zs, hcs, _, hl, hm, hz, hx, hcell, hwz⟩
  · simp [Value.cells] at hcs
    obtain ⟨rfl, rfl, rfl⟩ := hcs
    exact ⟨none, 0, [], rfl, ⟨ro_nil rfl, fun _ => rfl, Nat.le_refl _, by simp⟩, by simp⟩
  · simp [Value.cells] at hcs
    obtain ⟨rfl, rfl, rfl⟩ := hcs
    simp only [if_true] at hz
    simp only [Prod.mk.injEq] at hx
    have hs := hsz _ _ hx.1
    rw [hby] at hs
    have hlen : ((lits (H := H) .i64 (zs.take len)).length + (lits (H := H) .i64 (zs.drop len)).length) = zs.length := by simp [lits]; omega
    rw [hlen, hz] at hs
    have hll : ((zs.take len).map fun n => n).length = len := by simp; omega
    have e1 : reachBytes = 140737488351232 := rfl
    rw [e1] at hs
    refine ⟨some x, cap, (zs.take len).map fun n => n, by rw [hll], ⟨ro_nil ?_, fun h => (by cases h), by rw [hll]; exact hl, by rw [hll]; omega⟩, fun y hy => ?_⟩
    · intro j u hj
      have hjl : j < len := by
        have := (List.getElem?_eq_some_iff.1 hj).1
        rw [i64s_length, hll] at this
        exact this
      have hjz : j < zs.length := by omega
      have hget : zs.getD j 0 = zs[j] := by simp [List.getD, hjz]
      rw [hcell j hjz, hget]
      have hw := hwz zs[j] (List.getElem_mem hjz)
      have h2 : ((zs.take len).map fun n => n)[j]? = some zs[j] := by
        rw [List.getElem?_map, List.getElem?_take, if_pos hjl, List.getElem?_eq_getElem hjz, Option.map_some]
      simp only [i64s, List.getElem?_map, h2, Option.map_some, Option.some.injEq] at hj
      rw [← hj]
      rfl
    · simp only [List.map_id'] at hy
      exact lift_i64 (hwz y (List.mem_of_mem_take hy))
end Go.Dbr
