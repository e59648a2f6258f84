/- PcurveAdds returns true for every two numbers and every way. -/
import Derived.Test.YtpfhmbbiadpbeaaE4
import Derived.Test.YtpfhmbbiadpbeaaShape
set_option linter.unusedVariables false
namespace Go.Proofs.Ytpfhmbbiadpbeaa.pcurveAdds
open Go Go.Dbr Go.ChangeShapes Go.WideShapes Go.ChangeAt Go.RowKit
theorem own : ownKnob Try.prog.godebug = none := by kernel_rfl
theorem laidOut : laidOutB Try.prog = true := by kernel_rfl
theorem opens0 {H : Type} (enc : TypeId × Value → H) (W : World) : Opens enc Try.prog W 24 4 (fun l : List UInt64 => u64s l) (fun x => (List.length x = 4)) (fun x => 0) :=
  (opens_u64arr (by kernel_rfl : Try.prog.underlying 24 = some (.array 4 22)) (by kernel_rfl) (by kernel_rfl : Try.prog.underlying 22 = some (.int .u64)) (by kernel_rfl))
theorem opens1 {H : Type} (enc : TypeId × Value → H) (W : World) : Opens enc Try.prog W 24 4 (fun l : List UInt64 => u64s l) (fun x => (List.length x = 4)) (fun x => 0) :=
  (opens_u64arr (by kernel_rfl : Try.prog.underlying 24 = some (.array 4 22)) (by kernel_rfl) (by kernel_rfl : Try.prog.underlying 22 = some (.int .u64)) (by kernel_rfl))
theorem opens2 {H : Type} (enc : TypeId × Value → H) (W : World) : Opens enc Try.prog W 5 1 (fun n : UInt8 => [bv n]) (fun x => True) (fun x => 0) :=
  (opens_u8 (by kernel_rfl : Try.prog.underlying 5 = some (.int .u8)) (by kernel_rfl))
set_option maxRecDepth 100000 in
theorem lifted (os : Os) (started : os.Started) (H : Type) (enc : TypeId × Value → H) :
    ReturnsInHanded {} Try.checked os 4 .any (Rows.pcurveAddsSpec.pre6 enc Try.prog Try.f4 Rows.pcurveAddsRow.domain false) (Rows.pcurveAddsSpec.post enc Try.prog Try.f4 false true false false) := by
  refine returnsInHanded_of_change_sized (C := Try.checked) own started (by kernel_rfl) Try.func4
    (ChangeSpec.witness6 (enc := enc) (C := Try.checked) false ⟨#[], #[.agg #[.int .u64 0, .int .u64 0, .int .u64 0, .int .u64 0], .agg #[.int .u64 0, .int .u64 0, .int .u64 0, .int .u64 0], .int .u8 0], []⟩ 12 (by kernel_rfl) (by kernel_rfl) (by kernel_rfl) (by kernel_rfl)) ?_
  intro W base args ds gs before hval0 hW _ hsz0 _
  have hval : ∀ (j : Nat) t v, Try.f4.params[j]? = some t → args[j]? = some v → Value.okWide Try.prog W .any base t v := hval0
  have hW' := hW
  obtain ⟨p, q, hA0, hV, rfl, _, _⟩ := hW
  have hA : DataW.TrodAll enc Try.prog W 0 (fun _ => true) true Try.f4.params.toList args.toList ds p := hA0
  have hsz : (DataW.weightsEach Try.prog (Try.f4.params.toList ++ []) (ds ++ gs)).all (· ≤ reachBytes) = true := hsz0
  rw [Try.params4] at hA hval hsz
  obtain ⟨v0, vs0, d0, ds0, p0, q0, hargs, rfl, rfl, h0, r0⟩ := trodAll_cons hA
  obtain ⟨v1, vs1, d1, ds1, p1, q1, rfl, rfl, rfl, h1, r1⟩ := trodAll_cons r0
  obtain ⟨v2, vs2, d2, ds2, p2, q2, rfl, rfl, rfl, h2, r2⟩ := trodAll_cons r1
  obtain ⟨rfl, rfl, rfl⟩ := trodAll_nil r2
  obtain rfl : args = #[v0, v1, v2] := by cases args; simp_all
  obtain ⟨rfl, rfl⟩ := trodVars_none hV
  simp only [List.append_nil] at hsz
  have lt0 : ∀ x ∈ p0, x.block < W.heap.size := by obtain ⟨m, hm⟩ := h0; exact DataW.trod_lt m _ _ _ hm
  have lt1 : ∀ x ∈ p1, x.block < W.heap.size := by obtain ⟨m, hm⟩ := h1; exact DataW.trod_lt m _ _ _ hm
  have lt2 : ∀ x ∈ p2, x.block < W.heap.size := by obtain ⟨m, hm⟩ := h2; exact DataW.trod_lt m _ _ _ hm
  have k0 := h0
  have z0 := sized_each (j := 0) (t := 24) (d := d0) hsz rfl rfl
  obtain ⟨k, e0, n_k, b0⟩ := open_many (opens0 enc W) h0 (okWide_agg (.inr ⟨_, _, Try.underlying24⟩) (hval 0 24 v0 rfl rfl)) z0
  obtain rfl : v0 = .agg (List.toArray (u64s k)) := e0
  have k1 := h1
  have z1 := sized_each (j := 1) (t := 24) (d := d1) hsz rfl rfl
  obtain ⟨l, e1, n_l, b1⟩ := open_many (opens1 enc W) h1 (okWide_agg (.inr ⟨_, _, Try.underlying24⟩) (hval 1 24 v1 rfl rfl)) z1
  obtain rfl : v1 = .agg (List.toArray (u64s l)) := e1
  have k2 := h2
  have z2 := sized_each (j := 2) (t := 5) (d := d2) hsz rfl rfl
  obtain ⟨h, e2, _, b2⟩ := open_one (opens2 enc W) h2 (one_int Try.underlying5 (hval 2 5 v2 rfl rfl)) z2
  obtain rfl : v2 = .int .u8 ((UInt8.toNat h : Nat) : Int) := List.singleton_inj.1 e2
  refine (adds_walk k l h W n_k n_l).mono fun e W' ⟨he, hev⟩ => ?_
  have bel := hev.below
  subst he
  exact ⟨_, rfl, _, _, _, [], _, [], hW', trodAll_mk1 (shut_bool (by kernel_rfl) _), (trodAll_cons_mk (Below.trod laidOut (by kernel_rfl) (of_decide_eq_true (by kernel_rfl)) k0 bel lt0) (trodAll_cons_mk (Below.trod laidOut (by kernel_rfl) (of_decide_eq_true (by kernel_rfl)) k1 bel lt1) (trodAll_cons_mk (Below.trod laidOut (by kernel_rfl) (of_decide_eq_true (by kernel_rfl)) k2 bel lt2) trodAll_mk0))), rfl, bel.frame _, fun h => by cases h⟩
theorem over : Rows.pcurveAddsRow.holds Try.pinned (OpenSpec.ofChange Rows.pcurveAddsSpec) :=
  OpenClaim.holds_of_wide 4 Try.f4 rfl rfl rfl rfl rfl rfl rfl ⟨rfl, rfl, rfl, rfl, rfl⟩ rfl rfl rfl rfl rfl (by kernel_rfl) Try.func4 (by kernel_rfl)
    (of_decide_eq_true (by kernel_rfl)) (by unfold Func.isWrapper; first | (rw [if_pos (by decide +kernel)]; kernel_rfl) | (rw [if_neg (by decide +kernel)]; exact ⟨rfl, rfl⟩))
    (fun os started H enc _ => lifted os started H enc)
/-- the given statement -/
theorem proved : Rows.PcurveAddsSaid := over
#print axioms proved
end Go.Proofs.Ytpfhmbbiadpbeaa.pcurveAdds
