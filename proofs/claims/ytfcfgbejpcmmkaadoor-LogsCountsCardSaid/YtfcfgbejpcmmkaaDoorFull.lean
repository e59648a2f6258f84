/- x[:n:n] of what is owned. -/
import Derived.Test.YtfcfgbejpcmmkaaDoorZero
namespace Go.Dbr
open Go Go.RowKit
section
variable {P : Program} {ops : Array Oper} {Q : Exit → Act → World → Prop} {n i : Nat} {l : List (Nat × Value)} {a : Act} {w w0 : World} {L L0 : List Ent} {d : Option Tmp} {K : Act → World → Prop}
theorem Ev.tight {k : Nat} {ao : Option Addr} {cap p : Nat} {xs : List Value} {T : TypeId} (H : Ev w0 L0 w L) (hk : L[k]? = some (.vec ao cap 1 xs T)) (hn : xs.length = p) : Ev w0 L0 w (L.set k (.vec ao p 1 xs T)) := by
  refine H.trans (Ev.change H.heap hk (Chg.refl _ _) ?_ (fun b hb => .inl ?_))
  · have hh := H.heap.holds k _ hk
    cases ao with
    | none =>
      obtain ⟨rfl, rfl⟩ := hh
      exact ⟨by rw [← hn]; rfl, rfl⟩
    | some ad =>
      obtain ⟨h3, h4, h5, cur, fz, h6, hfz, h7, h8⟩ := hh
      rw [Nat.mul_one] at h5 h7
      exact ⟨h3, by omega, by omega, cur, fz, h6, hfz, by omega, h8⟩
  · cases ao with
    | none => simp [Ent.own] at hb
    | some ad => exact hb
theorem run_slicefull {t e : TypeId} {sz : Nat} (hu : P.underlying t = some (.slice e)) (hs : (fun w => (sizeOf e).run P w) = fun w => .ok sz w) (ao : Option Addr) (len cap : Nat) (h2 : len ≤ cap) (k k' : IntKind) (w : World) :
    (Instr.sliceAt t (.slice ao len cap) none (some (.int k (len : Int))) (some (.int k' (len : Int)))).run P w = .ok (.slice ao len len) w := by
  have hs' : (sizeOf e).run P w = .ok sz w := congrFun hs w
  have hc := cutAt_zero ao len sz
  unfold cutAt at hc
  rw [Nat.zero_mul] at hc
  simp [Instr.sliceAt, Instr.slice, Instr.sliceBounds, Instr.sliceBound, run_underlying hu, asIntOf, hs', h2, hc]
theorem op_slicefull (E : Env a n l) {t e T : TypeId} {k p cap : Nat} {ao : Option Addr} {xs : List Value} {kk kl : IntKind} (h : opAt ops n i l = some (.run d (nv (Instr.sliceAt t (.slice ao p cap) none (some (.int kk (p : Int))) (some (.int kl (p : Int)))))))
    (hu : P.underlying t = some (.slice e)) (hs : (fun w => (sizeOf e).run P w) = fun w => .ok 1 w) (H : Ev w0 L0 w L) (hk : L[k]? = some (.vec ao cap 1 xs T)) (hn : xs.length = p) (hc : p ≤ cap)
    (next : ∀ a', Env a' n (putl d (.slice ao p p) l) → Ev w0 L0 w (L.set k (.vec ao p 1 xs T)) → K a' w) : wpOp P ops Q i K a w :=
  any_run E h (run_nv (run_slicefull hu hs ao p cap hc kk kl w)) fun a' E' => next a' E' (H.tight hk hn)
/-- make([]T, q, m) -/
theorem op_makecap (E : Env a n l) {t T q m : Nat} {kl kc : IntKind} {z : Value} {bytes : Nat} (h : opAt ops n i l = some (.run d (nv (Instr.makeSlice t (.int kl ((q : Nat) : Int)) (.int kc ((m : Nat) : Int)))))) (H : Ev w0 L0 w L)
    (ht : P.underlying t = some (.slice T)) (hti : (P.info? T).map (fun i => (i.zero, i.size, i.bytes)) = some (some z, 1, bytes)) (hz : z.cells = #[z]) (hq : q ≤ m) (hb : bytes * m ≤ 281474976710656) (h63 : m ≤ maxLen)
    (next : ∀ a' w' b, Env a' n (putl d (.slice (some ⟨b, 0, none⟩) q m) l) → Ev w0 L0 w' (L ++ [.vec (some ⟨b, 0, none⟩) m 1 (List.replicate q z) T]) → K a' w') : wpOp P ops Q i K a w := by
  obtain ⟨ti, hi, hz', hsz, hby⟩ : ∃ ti, P.info? T = some ti ∧ ti.zero = some z ∧ ti.size = 1 ∧ ti.bytes = bytes := by
    cases hi : P.info? T with
    | none => simp [hi] at hti
    | some ti => simp only [hi, Option.map_some, Option.some.injEq, Prod.mk.injEq] at hti; exact ⟨ti, rfl, hti.1, hti.2.1, hti.2.2⟩
  subst hby
  have hr := run_make (P := P) w t T ti z ht hi hz' kl kc q m (by omega) (by omega) (by
    have h : ((ti.bytes * m : Nat) : Int) ≤ 281474976710656 := by omega
    rwa [Int.natCast_mul] at h) (by have := h63; simp only [maxLen] at this; omega)
  simp only [Int.toNat_natCast, hsz, Nat.mul_one] at hr
  rw [madeCells_one _ hz] at hr
  refine any_run E h (run_nv hr) fun a' E' => next a' _ _ E' (H.trans (Ev.add H.heap (chg_alloc _ _ _) ⟨rfl, h63, by simp; omega, (List.replicate m z).toArray, (0, 0), heap_alloc_new w _, .inl rfl, by simp, fun j hj => ?_⟩ (fun b hb => by simp only [Ent.own, Option.map_some, Option.some.injEq] at hb; omega)))
  rw [List.length_replicate] at hj
  show (List.replicate m z).toArray[0 + j]? = _
  rw [Nat.zero_add, List.getElem?_toArray, List.getElem?_replicate, List.getElem?_replicate, if_pos (by omega), if_pos hj]
end
end Go.Dbr
