/- FilesFull returns true for every number, all bytes. -/
import Derived.Test.YtfeibokonhdgnaaK8
import Derived.Test.YtfeibokonhdgnaaShape
set_option linter.unusedVariables false
namespace Go.Proofs.Ytfeibokonhdgnaa.filesFull
open Go Go.Dbr Go.ChangeShapes Go.WideShapes Go.ChangeAt Go.RowKit
theorem own : ownKnob Try.prog.godebug = none := by kernel_rfl
theorem laidOut : laidOutB Try.prog = true := by kernel_rfl
set_option maxRecDepth 99999 in
theorem opens0 {H : Type} (enc : TypeId × Value → H) (W : World) : Opens enc Try.prog W 5 1 (fun n : UInt8 => [bv n]) (fun x => True) (fun x => 0) :=
  (opens_u8 (by kernel_rfl : Try.prog.underlying 5 = some (.int .u8)) (by kernel_rfl))
set_option maxRecDepth 99999 in
theorem opens1 {H : Type} (enc : TypeId × Value → H) (W : World) : Opens enc Try.prog W 22 1 (fun s : Sl UInt8 => s.f) (fun x => (InB W [] x.a x.c x.l ∧ List.length x.l ≤ 140737488351232)) (fun x => List.length x.l) :=
  (opens_bysB (by kernel_rfl : Try.prog.underlying 22 = some (.slice 5)) (by kernel_rfl) (by kernel_rfl : Try.prog.underlying 5 = some (.int .u8)) (by kernel_rfl) (by kernel_rfl))
set_option maxRecDepth 100000 in
theorem lifted (os : Os) (started : os.Started) (H : Type) (enc : TypeId × Value → H) :
    ReturnsInHanded {} Try.checked os 5 .any (Rows.filesFullSpec.pre6 enc Try.prog Try.f5 Rows.filesFullRow.domain false) (Rows.filesFullSpec.post enc Try.prog Try.f5 false true false false) := by
  refine returnsInHanded_of_change_sized (C := Try.checked) own started (by kernel_rfl) Try.func5
    (ChangeSpec.witness6 (enc := enc) (C := Try.checked) false ⟨#[], #[.int .u8 0, .slice none 0 0], []⟩ 12 (by kernel_rfl) (by kernel_rfl) (by kernel_rfl) (by kernel_rfl)) ?_
  intro W base args ds gs before hval0 hW _ hsz0 _
  have hval : ∀ (j : Nat) t v, Try.f5.params[j]? = some t → args[j]? = some v → Value.okWide Try.prog W .any base t v := hval0
  have hW' := hW
  obtain ⟨p, q, hA0, hV, rfl, _, _⟩ := hW
  have hA : DataW.TrodAll enc Try.prog W 0 (fun _ => true) true Try.f5.params.toList args.toList ds p := hA0
  have hsz : (DataW.weightsEach Try.prog (Try.f5.params.toList ++ []) (ds ++ gs)).all (· ≤ reachBytes) = true := hsz0
  rw [Try.params5] at hA hval hsz
  obtain ⟨v0, vs0, d0, ds0, p0, q0, hargs, rfl, rfl, h0, r0⟩ := trodAll_cons hA
  obtain ⟨v1, vs1, d1, ds1, p1, q1, rfl, rfl, rfl, h1, r1⟩ := trodAll_cons r0
  obtain ⟨rfl, rfl, rfl⟩ := trodAll_nil r1
  obtain rfl : args = #[v0, v1] := by cases args; simp_all
  obtain ⟨rfl, rfl⟩ := trodVars_none hV
  simp only [List.append_nil] at hsz
  have lt0 : ∀ x ∈ p0, x.block < W.heap.size := by obtain ⟨m, hm⟩ := h0; exact DataW.trod_lt m _ _ _ hm
  have lt1 : ∀ x ∈ p1, x.block < W.heap.size := by obtain ⟨m, hm⟩ := h1; exact DataW.trod_lt m _ _ _ hm
  have k0 := h0
  have z0 := sized_each (j := 0) (t := 5) (d := d0) hsz rfl rfl
  obtain ⟨more, e0, _, b0⟩ := open_one (opens0 enc W) h0 (one_int Try.underlying5 (hval 0 5 v0 rfl rfl)) z0
  obtain rfl : v0 = .int .u8 ((UInt8.toNat more : Nat) : Int) := List.singleton_inj.1 e0
  have k1 := h1
  have z1 := sized_each (j := 1) (t := 22) (d := d1) hsz rfl rfl
  obtain ⟨⟨a_b, c_b, b⟩, e1, ⟨i_b, s_b⟩, b1⟩ := open_one (opens1 enc W) h1 (one_slice Try.underlying22 (hval 1 22 v1 rfl rfl)) z1
  obtain rfl : v1 = .slice a_b (List.length b) c_b := List.singleton_inj.1 e1
  refine (full_walk more a_b c_b b W i_b s_b).mono fun e W' ⟨he, hev⟩ => ?_
  have bel := hev.below
  subst he
  exact ⟨_, rfl, _, _, _, [], _, [], hW', trodAll_mk1 (shut_bool (by kernel_rfl) _), (trodAll_cons_mk (Below.trod laidOut (by kernel_rfl) (of_decide_eq_true (by kernel_rfl)) k0 bel lt0) (trodAll_cons_mk (Below.trod laidOut (by kernel_rfl) (of_decide_eq_true (by kernel_rfl)) k1 bel lt1) trodAll_mk0)), rfl, bel.frame _, fun h => by cases h⟩
theorem over : Rows.filesFullRow.holds Try.pinned (OpenSpec.ofChange Rows.filesFullSpec) :=
  OpenClaim.holds_of_wide 5 Try.f5 rfl rfl rfl rfl rfl rfl rfl ⟨rfl, rfl, rfl, rfl, rfl⟩ rfl rfl rfl rfl rfl (by kernel_rfl) Try.func5 (by kernel_rfl)
    (of_decide_eq_true (by kernel_rfl)) (by unfold Func.isWrapper; first | (rw [if_pos (by decide +kernel)]; kernel_rfl) | (rw [if_neg (by decide +kernel)]; exact ⟨rfl, rfl⟩))
    (fun os started H enc _ => lifted os started H enc)
/-- the given statement -/
theorem proved : Rows.FilesFullSaid := over
#print axioms proved
end Go.Proofs.Ytfeibokonhdgnaa.filesFull
