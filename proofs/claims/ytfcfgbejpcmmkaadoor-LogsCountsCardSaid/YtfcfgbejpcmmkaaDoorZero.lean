/- append of zeros to what is owned; a slice's array. -/
import Derived.Test.YtfcfgbejpcmmkaaDoorCopy
namespace Go.Dbr
open Go Go.RowKit
section
set_option linter.unusedSimpArgs false
variable {P : Program}

theorem bstr_zeros (m : Nat) : (bstr (List.replicate m 0)).size = m := by rw [bstr_size, List.length_replicate]
theorem zeroCells_u8 (m : Nat) : Builtin.zeroCells (Value.int .u8 0).cells m = (List.replicate m (Value.int .u8 0)).toArray := zeroCells_one (z := .int .u8 0) m rfl

/-- append(s, make([]byte, m)...) is as the append of a text of zeros -/
theorem run_append_zeros (w : World) {t tn tx ty T : TypeId} {i : TypeInfo} {kn : IntKind} (ht : P.underlying t = some (.slice T)) (htn : P.underlying tn = some (.int kn)) (htx : P.underlying tx = some .string) (hi : P.info? T = some i) (hz : i.zero = some (.int .u8 0)) (hsz : i.size = 1) (hby : i.bytes = 1)
    (a : Option Addr) (n cap m : Nat) (h : n + m ≤ 140737488355328) (hm : m ≤ 140737488355328) (ik : IntKind) :
    (Builtin.append_ #[t, tn] ty #[.slice a n cap, .int ik ((m : Nat) : Int)]).run P w = (Builtin.append_ #[t, tx] ty #[.slice a n cap, .string (bstr (List.replicate m 0))]).run P w := by
  have hw : IntKind.i64.wrap (m : Int) = m := by rw [IntKind.wrap_i64]; omega
  have hneg : ¬ ((m : Int) < 0) := by omega
  have h48i : ¬ (281474976710656 < (m : Int)) := by omega
  have h63 : ¬ (9223372036854775807 < ((n : Int) + (m : Int))) := by omega
  have hl : ∀ w' : World, (Builtin.lenOf (.string (bstr (List.replicate m 0)))).run P w' = .ok m w' := fun w' => by
    show Result.ok _ _ = _
    rw [bstr_zeros]
  have hz' : i.zero = some (Value.int .u8 0) := hz
  have hf : ∀ w' : World, (Builtin.firstCells 1 m (.string (bstr (List.replicate m 0)))).run P w' = .ok (List.replicate m (Value.int .u8 0)).toArray w' := fun w' => by
    have h1 := firstCells_string (P := P) (bstr (List.replicate m 0)) w'
    rw [bstr_zeros] at h1
    rw [h1]
    congr 2
    unfold byteCells bstr
    simp
  by_cases hroom : n + m ≤ cap
  · by_cases h0 : m = 0
    · subst h0
      have hw0 : IntKind.i64.wrap 0 = 0 := by rw [IntKind.wrap_i64]; rfl
      have hl0 : ∀ w' : World, (Builtin.lenOf (.string (bstr []))).run P w' = .ok 0 w' := fun _ => rfl
      have hf0 : ∀ w' : World, (Builtin.firstCells 1 0 (.string (bstr []))).run P w' = .ok #[] w' := fun w' => hf w'
      have hr0 : n ≤ cap := by omega
      have h630 : ¬ (9223372036854775807 < (n : Int)) := by omega
      simp [hw0, hl0, hf0, hr0, h630, Builtin.append_, run_underlying ht, run_underlying htn, run_underlying htx, sizeOf, typeInfo, zeroValue, hi, hz, hsz, hby, asInt, asIntOf, hw, hneg, h48i, hroom, hl, hf]
    · simp [Builtin.append_, run_underlying ht, run_underlying htn, run_underlying htx, sizeOf, typeInfo, zeroValue, hi, hz, hsz, hby, asInt, asIntOf, hw, hneg, h48i, hroom, hl, hf, h0, zeroCells_u8]
  · have h48' : ¬ (281474976710656 < Builtin.nextslicecap (n + m) cap) := by have := growslice_fits (bytes := 1) (Nat.lt_of_not_le hroom) (by omega); omega
    by_cases h0 : m = 0
    · subst h0
      have hw0 : IntKind.i64.wrap 0 = 0 := by rw [IntKind.wrap_i64]; rfl
      have hl0 : ∀ w' : World, (Builtin.lenOf (.string (bstr []))).run P w' = .ok 0 w' := fun _ => rfl
      have hf0 : ∀ w' : World, (Builtin.firstCells 1 0 (.string (bstr []))).run P w' = .ok #[] w' := fun w' => hf w'
      have hr0 : ¬ n ≤ cap := by omega
      have h630 : ¬ (9223372036854775807 < (n : Int)) := by omega
      have h480 : ¬ (281474976710656 < Builtin.nextslicecap n cap) := h48'
      simp [hw0, hl0, hf0, hr0, h630, h480, Builtin.append_, run_underlying ht, run_underlying htn, run_underlying htx, sizeOf, typeInfo, zeroValue, hi, hz, hsz, hby, asInt, asIntOf, hw, hneg, h48i, hroom, hl, hf, h63, h48']
    · simp [Builtin.append_, run_underlying ht, run_underlying htn, run_underlying htx, sizeOf, typeInfo, zeroValue, hi, hz, hsz, hby, asInt, asIntOf, hw, hneg, h48i, hroom, hl, hf, h0, zeroCells_u8, h63, h48']
theorem bstr_src {w : World} {tx : TypeId} (hk : P.underlying tx = some .string) (m : Nat) : Src P 1 tx (.string (bstr (List.replicate m 0))) m (bys (List.replicate m 0)) w := by
  have h := Src.ofString w hk (bstr (List.replicate m 0))
  rw [bstr_zeros] at h
  have e : byteCells (bstr (List.replicate m 0)) = bys (List.replicate m 0) := by
    unfold byteCells bstr
    rw [bys_replicate]
    simp
    exact .inr rfl
  rwa [e] at h
variable {ops : Array Oper} {Q : Exit → Act → World → Prop} {n i : Nat} {l : List (Nat × Value)} {a : Act} {w w0 : World} {L L0 : List Ent} {d : Option Tmp} {K : Act → World → Prop}
theorem op_appzeros (E : Env a n l) {t tn tx ty T : TypeId} {kn ik : IntKind} {k : Nat} {ao : Option Addr} {cap p m : Nat} {xs : List UInt8} (h : opAt ops n i l = some (.run d (appendOf t tn ty (.slice ao p cap) (.int ik ((m : Nat) : Int))))) (H : Ev w0 L0 w L) (hk : L[k]? = some (.vec ao cap 1 (bys xs) T)) (hn : xs.length = p)
    (ht : P.underlying t = some (.slice T)) (htn : P.underlying tn = some (.int kn)) (htx : P.underlying tx = some .string) (hti : (P.info? T).map (fun i => (i.zero, i.size, i.bytes)) = some (some (.int .u8 0), 1, 1)) (hb : p + m ≤ 140737488355328)
    (next : ∀ a' w' ao' cap', Env a' n (putl d (.slice ao' (p + m) cap') l) → Ev w0 L0 w' (L.set k (.vec ao' cap' 1 (bys (xs ++ List.replicate m 0)) T)) → (ao' = none → p + m = 0) → p + m ≤ cap' → K a' w') : wpOp P ops Q i K a w := by
  obtain ⟨ti, hi, hz, hsz, hby⟩ : ∃ ti, P.info? T = some ti ∧ ti.zero = some (.int .u8 0) ∧ ti.size = 1 ∧ ti.bytes = 1 := by
    cases hi : P.info? T with
    | none => simp [hi] at hti
    | some ti => simp only [hi, Option.map_some, Option.some.injEq, Prod.mk.injEq] at hti; exact ⟨ti, rfl, hti.1, hti.2.1, hti.2.2⟩
  obtain ⟨ao', cap', w', hr, he, h1, h2⟩ := H.heap.append1 (ty := ty) hk (by rw [bys_length, hn, Nat.mul_one]) (bstr_src htx m) ht hi hz hsz hby rfl (by decide) (by unfold maxLen; omega) (by omega)
  rw [← run_append_zeros w ht htn htx hi hz hsz hby ao p cap m hb (by omega) ik] at hr
  rw [← bys_append] at he
  exact any_run E h (run_nv hr) fun a' E' => next a' w' ao' cap' E' (H.trans he) h1 h2
/-- a slice as the array behind it -/
theorem run_toarr {t e : TypeId} {m : Nat} (hu : P.underlying t = some (.array m e)) {ad : Addr} {p c : Nat} (h : m ≤ p) (w : World) : (Instr.arrayAt t (.slice (some ad) p c)).run P w = .ok (.pointer (some ad)) w := by
  unfold Instr.arrayAt
  simp [run_underlying hu, Nat.not_lt.2 h]
/-- make([]T, 0, m) -/
theorem op_makeroom (E : Env a n l) {t T m : Nat} {kl kc : IntKind} {z : Value} {bytes : Nat} (h : opAt ops n i l = some (.run d (nv (Instr.makeSlice t (.int kl 0) (.int kc ((m : Nat) : Int)))))) (H : Ev w0 L0 w L)
    (ht : P.underlying t = some (.slice T)) (hti : (P.info? T).map (fun i => (i.zero, i.size, i.bytes)) = some (some z, 1, bytes)) (hz : z.cells = #[z]) (hb : bytes * m ≤ 281474976710656) (h63 : m ≤ maxLen)
    (next : ∀ a' w' b, Env a' n (putl d (.slice (some ⟨b, 0, none⟩) 0 m) l) → Ev w0 L0 w' (L ++ [.vec (some ⟨b, 0, none⟩) m 1 [] T]) → K a' w') : wpOp P ops Q i K a w := by
  obtain ⟨ti, hi, hz', hsz, hby⟩ : ∃ ti, P.info? T = some ti ∧ ti.zero = some z ∧ ti.size = 1 ∧ ti.bytes = bytes := by
    cases hi : P.info? T with
    | none => simp [hi] at hti
    | some ti => simp only [hi, Option.map_some, Option.some.injEq, Prod.mk.injEq] at hti; exact ⟨ti, rfl, hti.1, hti.2.1, hti.2.2⟩
  subst hby
  have hr := run_make (P := P) w t T ti z ht hi hz' kl kc 0 m (by omega) (by omega) (by
    have h : ((ti.bytes * m : Nat) : Int) ≤ 281474976710656 := by omega
    rwa [Int.natCast_mul] at h) (by have := h63; simp only [maxLen] at this; omega)
  simp only [Int.toNat_natCast, hsz, Nat.mul_one] at hr
  rw [madeCells_one _ hz] at hr
  refine any_run E h (run_nv hr) fun a' E' => next a' _ _ E' (H.trans (Ev.add H.heap (chg_alloc _ _ _) ⟨rfl, h63, by simp, (List.replicate m z).toArray, (0, 0), heap_alloc_new w _, .inl rfl, by simp, fun j hj => by simp at hj⟩ (fun b hb => by simp only [Ent.own, Option.map_some, Option.some.injEq] at hb; omega)))
end
end Go.Dbr
