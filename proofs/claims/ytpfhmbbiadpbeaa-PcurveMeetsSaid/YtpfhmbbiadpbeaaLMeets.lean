/- PcurveMeets returns true for every two numbers and every point. -/
import Derived.Test.YtpfhmbbiadpbeaaE5
import Derived.Test.YtpfhmbbiadpbeaaShape
set_option linter.unusedVariables false
namespace Go.Proofs.Ytpfhmbbiadpbeaa.pcurveMeets
open Go Go.Dbr Go.ChangeShapes Go.WideShapes Go.ChangeAt Go.RowKit
theorem own : ownKnob Try.prog.godebug = none := by kernel_rfl
theorem laidOut : laidOutB Try.prog = true := by kernel_rfl
set_option maxRecDepth 99999 in
theorem opens0 {H : Type} (enc : TypeId × Value → H) (W : World) : Opens enc Try.prog W 24 4 (fun l : List UInt64 => u64s l) (fun x => (List.length x = 4)) (fun x => 0) :=
  (opens_u64arr (by kernel_rfl : Try.prog.underlying 24 = some (.array 4 22)) (by kernel_rfl) (by kernel_rfl : Try.prog.underlying 22 = some (.int .u64)) (by kernel_rfl))
set_option maxRecDepth 99999 in
theorem opens1 {H : Type} (enc : TypeId × Value → H) (W : World) : Opens enc Try.prog W 24 4 (fun l : List UInt64 => u64s l) (fun x => (List.length x = 4)) (fun x => 0) :=
  (opens_u64arr (by kernel_rfl : Try.prog.underlying 24 = some (.array 4 22)) (by kernel_rfl) (by kernel_rfl : Try.prog.underlying 22 = some (.int .u64)) (by kernel_rfl))
set_option maxRecDepth 99999 in
theorem opens2 {H : Type} (enc : TypeId × Value → H) (W : World) : Opens enc Try.prog W 26 9 (fun p : (Bool) × (List UInt64) × (List UInt64) × Unit => (fun b : Bool => [.bool b]) p.1 ++ (fun p : (List UInt64) × (List UInt64) × Unit => (fun l : List UInt64 => u64s l) p.1 ++ (fun p : (List UInt64) × Unit => (fun l : List UInt64 => u64s l) p.1 ++ (fun _ : Unit => []) p.2) p.2) p.2) (fun x => (True ∧ ((List.length x.2.1 = 4) ∧ ((List.length x.2.2.1 = 4) ∧ (True))))) (fun x => (0 + (0 + (0 + (0))))) :=
  (opens_struct Try.underlying26 (by kernel_rfl) (opensF_cons (opens_bool (by kernel_rfl : Try.prog.underlying 4 = some .bool) (by kernel_rfl)) rfl (opensF_cons (opens_u64arr (by kernel_rfl : Try.prog.underlying 24 = some (.array 4 22)) (by kernel_rfl) (by kernel_rfl : Try.prog.underlying 22 = some (.int .u64)) (by kernel_rfl)) rfl (opensF_cons (opens_u64arr (by kernel_rfl : Try.prog.underlying 24 = some (.array 4 22)) (by kernel_rfl) (by kernel_rfl : Try.prog.underlying 22 = some (.int .u64)) (by kernel_rfl)) rfl opensF_nil))))
set_option maxRecDepth 100000 in
theorem lifted (os : Os) (started : os.Started) (H : Type) (enc : TypeId × Value → H) :
    ReturnsInHanded {} Try.checked os 7 .any (Rows.pcurveMeetsSpec.pre6 enc Try.prog Try.f7 Rows.pcurveMeetsRow.domain false) (Rows.pcurveMeetsSpec.post enc Try.prog Try.f7 false true false false) := by
  refine returnsInHanded_of_change_sized (C := Try.checked) own started (by kernel_rfl) Try.func7
    (ChangeSpec.witness6 (enc := enc) (C := Try.checked) false ⟨#[], #[.agg #[.int .u64 0, .int .u64 0, .int .u64 0, .int .u64 0], .agg #[.int .u64 0, .int .u64 0, .int .u64 0, .int .u64 0], .agg #[.bool false, .int .u64 0, .int .u64 0, .int .u64 0, .int .u64 0, .int .u64 0, .int .u64 0, .int .u64 0, .int .u64 0]], []⟩ 12 (by kernel_rfl) (by kernel_rfl) (by kernel_rfl) (by kernel_rfl)) ?_
  intro W base args ds gs before hval0 hW _ hsz0 _
  have hval : ∀ (j : Nat) t v, Try.f7.params[j]? = some t → args[j]? = some v → Value.okWide Try.prog W .any base t v := hval0
  have hW' := hW
  obtain ⟨p, q, hA0, hV, rfl, _, _⟩ := hW
  have hA : DataW.TrodAll enc Try.prog W 0 (fun _ => true) true Try.f7.params.toList args.toList ds p := hA0
  have hsz : (DataW.weightsEach Try.prog (Try.f7.params.toList ++ []) (ds ++ gs)).all (· ≤ reachBytes) = true := hsz0
  rw [Try.params7] at hA hval hsz
  obtain ⟨v0, vs0, d0, ds0, p0, q0, hargs, rfl, rfl, h0, r0⟩ := trodAll_cons hA
  obtain ⟨v1, vs1, d1, ds1, p1, q1, rfl, rfl, rfl, h1, r1⟩ := trodAll_cons r0
  obtain ⟨v2, vs2, d2, ds2, p2, q2, rfl, rfl, rfl, h2, r2⟩ := trodAll_cons r1
  obtain ⟨rfl, rfl, rfl⟩ := trodAll_nil r2
  obtain rfl : args = #[v0, v1, v2] := by cases args; simp_all
  obtain ⟨rfl, rfl⟩ := trodVars_none hV
  simp only [List.append_nil] at hsz
  have lt0 : ∀ x ∈ p0, x.block < W.heap.size := by obtain ⟨m, hm⟩ := h0; exact DataW.trod_lt m _ _ _ hm
  have lt1 : ∀ x ∈ p1, x.block < W.heap.size := by obtain ⟨m, hm⟩ := h1; exact DataW.trod_lt m _ _ _ hm
  have lt2 : ∀ x ∈ p2, x.block < W.heap.size := by obtain ⟨m, hm⟩ := h2; exact DataW.trod_lt m _ _ _ hm
  have k0 := h0
  have z0 := sized_each (j := 0) (t := 24) (d := d0) hsz rfl rfl
  obtain ⟨d, e0, n_d, b0⟩ := open_many (opens0 enc W) h0 (okWide_agg (.inr ⟨_, _, Try.underlying24⟩) (hval 0 24 v0 rfl rfl)) z0
  obtain rfl : v0 = .agg (List.toArray (u64s d)) := (by first | exact e0 | exact e0.trans (by simp only [List.append_nil]))
  have k1 := h1
  have z1 := sized_each (j := 1) (t := 24) (d := d1) hsz rfl rfl
  obtain ⟨c, e1, n_c, b1⟩ := open_many (opens1 enc W) h1 (okWide_agg (.inr ⟨_, _, Try.underlying24⟩) (hval 1 24 v1 rfl rfl)) z1
  obtain rfl : v1 = .agg (List.toArray (u64s c)) := (by first | exact e1 | exact e1.trans (by simp only [List.append_nil]))
  have k2 := h2
  have z2 := sized_each (j := 2) (t := 26) (d := d2) hsz rfl rfl
  obtain ⟨⟨pa, pb, pc, _⟩, e2, ⟨_, n_pb, n_pc, _⟩, b2⟩ := open_many (opens2 enc W) h2 (okWide_agg (.inl ⟨_, Try.underlying26⟩) (hval 2 26 v2 rfl rfl)) z2
  obtain rfl : v2 = .agg (List.toArray (([.bool pa] : List Value) ++ ((u64s pb) ++ (u64s pc)))) := (by first | exact e2 | exact e2.trans (by simp only [List.append_nil]))
  refine (meets_walk d c pa pb pc W n_d n_c n_pb n_pc).mono fun e W' ⟨he, hev⟩ => ?_
  have bel := hev.below
  subst he
  exact ⟨_, rfl, _, _, _, [], _, [], hW', trodAll_mk1 (shut_bool (by kernel_rfl) _), (trodAll_cons_mk (Below.trod laidOut (by kernel_rfl) (of_decide_eq_true (by kernel_rfl)) k0 bel lt0) (trodAll_cons_mk (Below.trod laidOut (by kernel_rfl) (of_decide_eq_true (by kernel_rfl)) k1 bel lt1) (trodAll_cons_mk (Below.trod laidOut (by kernel_rfl) (of_decide_eq_true (by kernel_rfl)) k2 bel lt2) trodAll_mk0))), rfl, bel.frame _, fun h => by cases h⟩
theorem over : Rows.pcurveMeetsRow.holds Try.pinned (OpenSpec.ofChange Rows.pcurveMeetsSpec) :=
  OpenClaim.holds_of_wide 7 Try.f7 rfl rfl rfl rfl rfl rfl rfl ⟨rfl, rfl, rfl, rfl, rfl⟩ rfl rfl rfl rfl rfl (by kernel_rfl) Try.func7 (by kernel_rfl)
    (of_decide_eq_true (by kernel_rfl)) (by unfold Func.isWrapper; first | (rw [if_pos (by decide +kernel)]; kernel_rfl) | (rw [if_neg (by decide +kernel)]; exact ⟨rfl, rfl⟩))
    (fun os started H enc _ => lifted os started H enc)
/-- the given statement -/
theorem proved : Rows.PcurveMeetsSaid := over
#print axioms proved
end Go.Proofs.Ytpfhmbbiadpbeaa.pcurveMeets
