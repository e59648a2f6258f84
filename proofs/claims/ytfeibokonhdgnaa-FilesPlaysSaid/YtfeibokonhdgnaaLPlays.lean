/- FilesPlays returns true for every list of calls. -/
import Derived.Test.YtfeibokonhdgnaaP6
import Derived.Test.YtfeibokonhdgnaaShape
set_option linter.unusedVariables false
namespace Go.Proofs.Ytfeibokonhdgnaa.filesPlays
open Go Go.Dbr Go.ChangeShapes Go.WideShapes Go.ChangeAt Go.RowKit
theorem own : ownKnob Try.prog.godebug = none := by kernel_rfl
theorem laidOut : laidOutB Try.prog = true := by kernel_rfl
set_option maxRecDepth 99999 in
theorem opens0 {H : Type} (enc : TypeId × Value → H) (W : World) : Opens enc Try.prog W 39 1 (fun s : Sl ((Int) × (List UInt8) × (Sl UInt8) × (Int) × Unit) => s.f) (fun x => InS (fun p : (Int) × (List UInt8) × (Sl UInt8) × (Int) × Unit => (fun n : Int => [.int .i64 n]) p.1 ++ (fun p : (List UInt8) × (Sl UInt8) × (Int) × Unit => (fun l : List UInt8 => [.string (bstr l)]) p.1 ++ (fun p : (Sl UInt8) × (Int) × Unit => (fun s : Sl UInt8 => s.f) p.1 ++ (fun p : (Int) × Unit => (fun n : Int => [.int .i64 n]) p.1 ++ (fun _ : Unit => []) p.2) p.2) p.2) p.2) 56 (fun x : (Int) × (List UInt8) × (Sl UInt8) × (Int) × Unit => ((-9223372036854775808 ≤ x.1 ∧ x.1 ≤ 9223372036854775807) ∧ ((List.length x.2.1 ≤ 140737488351232) ∧ ((InB W [] x.2.2.1.a x.2.2.1.c x.2.2.1.l ∧ List.length x.2.2.1.l ≤ 140737488351232) ∧ ((-9223372036854775808 ≤ x.2.2.2.1 ∧ x.2.2.2.1 ≤ 9223372036854775807) ∧ (True)))))) W [] x.a x.c x.l) (fun x => (List.map (fun x => (0 + (List.length x.2.1 + (List.length x.2.2.1.l + (0 + (0))))) + 1) x.l).sum) :=
  (opens_slice (by kernel_rfl : Try.prog.underlying 39 = some (.slice 46)) (by kernel_rfl) (by kernel_rfl) (opens_struct Try.underlying46 (by kernel_rfl) (opensF_cons (opens_i64 (by kernel_rfl : Try.prog.underlying 3 = some (.int .i64)) (by kernel_rfl)) rfl (opensF_cons (opens_string (by kernel_rfl : Try.prog.underlying 9 = some .string) (by kernel_rfl)) rfl (opensF_cons (opens_bysB (by kernel_rfl : Try.prog.underlying 22 = some (.slice 5)) (by kernel_rfl) (by kernel_rfl : Try.prog.underlying 5 = some (.int .u8)) (by kernel_rfl) (by kernel_rfl)) rfl (opensF_cons (opens_i64 (by kernel_rfl : Try.prog.underlying 3 = some (.int .i64)) (by kernel_rfl)) rfl opensF_nil))))))
set_option maxRecDepth 100000 in
theorem lifted (os : Os) (started : os.Started) (H : Type) (enc : TypeId × Value → H) :
    ReturnsInHanded {} Try.checked os 6 .any (Rows.filesPlaysSpec.pre6 enc Try.prog Try.f6 Rows.filesPlaysRow.domain false) (Rows.filesPlaysSpec.post enc Try.prog Try.f6 false true false false) := by
  refine returnsInHanded_of_change_sized (C := Try.checked) own started (by kernel_rfl) Try.func6
    (ChangeSpec.witness6 (enc := enc) (C := Try.checked) false ⟨#[], #[.slice none 0 0], []⟩ 12 (by kernel_rfl) (by kernel_rfl) (by kernel_rfl) (by kernel_rfl)) ?_
  intro W base args ds gs before hval0 hW _ hsz0 _
  have hval : ∀ (j : Nat) t v, Try.f6.params[j]? = some t → args[j]? = some v → Value.okWide Try.prog W .any base t v := hval0
  have hW' := hW
  obtain ⟨p, q, hA0, hV, rfl, _, _⟩ := hW
  have hA : DataW.TrodAll enc Try.prog W 0 (fun _ => true) true Try.f6.params.toList args.toList ds p := hA0
  have hsz : (DataW.weightsEach Try.prog (Try.f6.params.toList ++ []) (ds ++ gs)).all (· ≤ reachBytes) = true := hsz0
  rw [Try.params6] at hA hval hsz
  obtain ⟨v0, vs0, d0, ds0, p0, q0, hargs, rfl, rfl, h0, r0⟩ := trodAll_cons hA
  obtain ⟨rfl, rfl, rfl⟩ := trodAll_nil r0
  obtain rfl : args = #[v0] := by cases args; simp_all
  obtain ⟨rfl, rfl⟩ := trodVars_none hV
  simp only [List.append_nil] at hsz
  have lt0 : ∀ x ∈ p0, x.block < W.heap.size := by obtain ⟨m, hm⟩ := h0; exact DataW.trod_lt m _ _ _ hm
  have k0 := h0
  have z0 := sized_each (j := 0) (t := 39) (d := d0) hsz rfl rfl
  obtain ⟨⟨a_lo, c_lo, lo⟩, e0, i_lo, b0⟩ := open_one (opens0 enc W) h0 (one_slice Try.underlying39 (hval 0 39 v0 rfl rfl)) z0
  obtain rfl : v0 = .slice a_lo (List.length lo) c_lo := List.singleton_inj.1 e0
  refine (plays_walk a_lo c_lo lo W i_lo).mono fun e W' ⟨he, hev⟩ => ?_
  have bel := hev.below
  subst he
  exact ⟨_, rfl, _, _, _, [], _, [], hW', trodAll_mk1 (shut_bool (by kernel_rfl) _), (trodAll_cons_mk (Below.trod laidOut (by kernel_rfl) (of_decide_eq_true (by kernel_rfl)) k0 bel lt0) trodAll_mk0), rfl, bel.frame _, fun h => by cases h⟩
theorem over : Rows.filesPlaysRow.holds Try.pinned (OpenSpec.ofChange Rows.filesPlaysSpec) :=
  OpenClaim.holds_of_wide 6 Try.f6 rfl rfl rfl rfl rfl rfl rfl ⟨rfl, rfl, rfl, rfl, rfl⟩ rfl rfl rfl rfl rfl (by kernel_rfl) Try.func6 (by kernel_rfl)
    (of_decide_eq_true (by kernel_rfl)) (by unfold Func.isWrapper; first | (rw [if_pos (by decide +kernel)]; kernel_rfl) | (rw [if_neg (by decide +kernel)]; exact ⟨rfl, rfl⟩))
    (fun os started H enc _ => lifted os started H enc)
/-- the given statement -/
theorem proved : Rows.FilesPlaysSaid := over
#print axioms proved
end Go.Proofs.Ytfeibokonhdgnaa.filesPlays
