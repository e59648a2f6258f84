/- FilesTorn returns true for every name, all bytes, every number. -/
import Derived.Test.YtfeibokonhdgnaaK6
import Derived.Test.YtfeibokonhdgnaaShape
set_option linter.unusedVariables false
namespace Go.Proofs.Ytfeibokonhdgnaa.filesTorn
open Go Go.Dbr Go.ChangeShapes Go.WideShapes Go.ChangeAt Go.RowKit
theorem own : ownKnob Try.prog.godebug = none := by kernel_rfl
theorem laidOut : laidOutB Try.prog = true := by kernel_rfl
set_option maxRecDepth 99999 in
theorem opens0 {H : Type} (enc : TypeId × Value → H) (W : World) : Opens enc Try.prog W 9 1 (fun l : List UInt8 => [.string (bstr l)]) (fun x => (List.length x ≤ 140737488351232)) (fun x => List.length x) :=
  (opens_string (by kernel_rfl : Try.prog.underlying 9 = some .string) (by kernel_rfl))
set_option maxRecDepth 99999 in
theorem opens1 {H : Type} (enc : TypeId × Value → H) (W : World) : Opens enc Try.prog W 22 1 (fun s : Sl UInt8 => s.f) (fun x => (InB W [] x.a x.c x.l ∧ List.length x.l ≤ 140737488351232)) (fun x => List.length x.l) :=
  (opens_bysB (by kernel_rfl : Try.prog.underlying 22 = some (.slice 5)) (by kernel_rfl) (by kernel_rfl : Try.prog.underlying 5 = some (.int .u8)) (by kernel_rfl) (by kernel_rfl))
set_option maxRecDepth 99999 in
theorem opens2 {H : Type} (enc : TypeId × Value → H) (W : World) : Opens enc Try.prog W 22 1 (fun s : Sl UInt8 => s.f) (fun x => (InB W [] x.a x.c x.l ∧ List.length x.l ≤ 140737488351232)) (fun x => List.length x.l) :=
  (opens_bysB (by kernel_rfl : Try.prog.underlying 22 = some (.slice 5)) (by kernel_rfl) (by kernel_rfl : Try.prog.underlying 5 = some (.int .u8)) (by kernel_rfl) (by kernel_rfl))
set_option maxRecDepth 99999 in
theorem opens3 {H : Type} (enc : TypeId × Value → H) (W : World) : Opens enc Try.prog W 23 1 (fun n : UInt16 => [uv16 n]) (fun x => True) (fun x => 0) :=
  (opens_u16 (by kernel_rfl : Try.prog.underlying 23 = some (.int .u16)) (by kernel_rfl))
set_option maxRecDepth 100000 in
theorem lifted (os : Os) (started : os.Started) (H : Type) (enc : TypeId × Value → H) :
    ReturnsInHanded {} Try.checked os 4 .any (Rows.filesTornSpec.pre6 enc Try.prog Try.f4 Rows.filesTornRow.domain false) (Rows.filesTornSpec.post enc Try.prog Try.f4 false true false false) := by
  refine returnsInHanded_of_change_sized (C := Try.checked) own started (by kernel_rfl) Try.func4
    (ChangeSpec.witness6 (enc := enc) (C := Try.checked) false ⟨#[], #[.string (bstr []), .slice none 0 0, .slice none 0 0, .int .u16 0], []⟩ 12 (by kernel_rfl) (by kernel_rfl) (by kernel_rfl) (by kernel_rfl)) ?_
  intro W base args ds gs before hval0 hW _ hsz0 _
  have hval : ∀ (j : Nat) t v, Try.f4.params[j]? = some t → args[j]? = some v → Value.okWide Try.prog W .any base t v := hval0
  have hW' := hW
  obtain ⟨p, q, hA0, hV, rfl, _, _⟩ := hW
  have hA : DataW.TrodAll enc Try.prog W 0 (fun _ => true) true Try.f4.params.toList args.toList ds p := hA0
  have hsz : (DataW.weightsEach Try.prog (Try.f4.params.toList ++ []) (ds ++ gs)).all (· ≤ reachBytes) = true := hsz0
  rw [Try.params4] at hA hval hsz
  obtain ⟨v0, vs0, d0, ds0, p0, q0, hargs, rfl, rfl, h0, r0⟩ := trodAll_cons hA
  obtain ⟨v1, vs1, d1, ds1, p1, q1, rfl, rfl, rfl, h1, r1⟩ := trodAll_cons r0
  obtain ⟨v2, vs2, d2, ds2, p2, q2, rfl, rfl, rfl, h2, r2⟩ := trodAll_cons r1
  obtain ⟨v3, vs3, d3, ds3, p3, q3, rfl, rfl, rfl, h3, r3⟩ := trodAll_cons r2
  obtain ⟨rfl, rfl, rfl⟩ := trodAll_nil r3
  obtain rfl : args = #[v0, v1, v2, v3] := by cases args; simp_all
  obtain ⟨rfl, rfl⟩ := trodVars_none hV
  simp only [List.append_nil] at hsz
  have lt0 : ∀ x ∈ p0, x.block < W.heap.size := by obtain ⟨m, hm⟩ := h0; exact DataW.trod_lt m _ _ _ hm
  have lt1 : ∀ x ∈ p1, x.block < W.heap.size := by obtain ⟨m, hm⟩ := h1; exact DataW.trod_lt m _ _ _ hm
  have lt2 : ∀ x ∈ p2, x.block < W.heap.size := by obtain ⟨m, hm⟩ := h2; exact DataW.trod_lt m _ _ _ hm
  have lt3 : ∀ x ∈ p3, x.block < W.heap.size := by obtain ⟨m, hm⟩ := h3; exact DataW.trod_lt m _ _ _ hm
  have k0 := h0
  have z0 := sized_each (j := 0) (t := 9) (d := d0) hsz rfl rfl
  obtain ⟨nm, e0, s_nm, b0⟩ := open_one (opens0 enc W) h0 (one_string Try.underlying9 (hval 0 9 v0 rfl rfl)) z0
  obtain rfl : v0 = .string (bstr nm) := List.singleton_inj.1 e0
  have k1 := h1
  have z1 := sized_each (j := 1) (t := 22) (d := d1) hsz rfl rfl
  obtain ⟨⟨a_ol, c_ol, ol⟩, e1, ⟨i_ol, s_ol⟩, b1⟩ := open_one (opens1 enc W) h1 (one_slice Try.underlying22 (hval 1 22 v1 rfl rfl)) z1
  obtain rfl : v1 = .slice a_ol (List.length ol) c_ol := List.singleton_inj.1 e1
  have k2 := h2
  have z2 := sized_each (j := 2) (t := 22) (d := d2) hsz rfl rfl
  obtain ⟨⟨a_fr, c_fr, fr⟩, e2, ⟨i_fr, s_fr⟩, b2⟩ := open_one (opens2 enc W) h2 (one_slice Try.underlying22 (hval 2 22 v2 rfl rfl)) z2
  obtain rfl : v2 = .slice a_fr (List.length fr) c_fr := List.singleton_inj.1 e2
  have k3 := h3
  have z3 := sized_each (j := 3) (t := 23) (d := d3) hsz rfl rfl
  obtain ⟨nn, e3, _, b3⟩ := open_one (opens3 enc W) h3 (one_int Try.underlying23 (hval 3 23 v3 rfl rfl)) z3
  obtain rfl : v3 = .int .u16 ((UInt16.toNat nn : Nat) : Int) := List.singleton_inj.1 e3
  refine (torn_walk nm a_ol c_ol ol a_fr c_fr fr nn W s_nm i_ol s_ol i_fr s_fr).mono fun e W' ⟨he, hev⟩ => ?_
  have bel := hev.below
  subst he
  exact ⟨_, rfl, _, _, _, [], _, [], hW', trodAll_mk1 (shut_bool (by kernel_rfl) _), (trodAll_cons_mk (Below.trod laidOut (by kernel_rfl) (of_decide_eq_true (by kernel_rfl)) k0 bel lt0) (trodAll_cons_mk (Below.trod laidOut (by kernel_rfl) (of_decide_eq_true (by kernel_rfl)) k1 bel lt1) (trodAll_cons_mk (Below.trod laidOut (by kernel_rfl) (of_decide_eq_true (by kernel_rfl)) k2 bel lt2) (trodAll_cons_mk (Below.trod laidOut (by kernel_rfl) (of_decide_eq_true (by kernel_rfl)) k3 bel lt3) trodAll_mk0)))), rfl, bel.frame _, fun h => by cases h⟩
theorem over : Rows.filesTornRow.holds Try.pinned (OpenSpec.ofChange Rows.filesTornSpec) :=
  OpenClaim.holds_of_wide 4 Try.f4 rfl rfl rfl rfl rfl rfl rfl ⟨rfl, rfl, rfl, rfl, rfl⟩ rfl rfl rfl rfl rfl (by kernel_rfl) Try.func4 (by kernel_rfl)
    (of_decide_eq_true (by kernel_rfl)) (by unfold Func.isWrapper; first | (rw [if_pos (by decide +kernel)]; kernel_rfl) | (rw [if_neg (by decide +kernel)]; exact ⟨rfl, rfl⟩))
    (fun os started H enc _ => lifted os started H enc)
/-- the given statement -/
theorem proved : Rows.FilesTornSaid := over
#print axioms proved
end Go.Proofs.Ytfeibokonhdgnaa.filesTorn
