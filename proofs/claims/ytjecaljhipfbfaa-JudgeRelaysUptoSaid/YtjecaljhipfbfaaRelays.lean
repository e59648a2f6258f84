/- JudgeRelays returns true for every header and every list of what is done, together of bulk at most 1048576. -/
import Derived.Test.YtjecaljhipfbfaaJ11
import Derived.Test.YtjecaljhipfbfaaShape
import Derived.Deep.CondSized
set_option linter.unusedVariables false
namespace Go.Proofs.Ytjecaljhipfbfaa.judgeRelays
open Go Go.Dbr Go.ChangeShapes Go.WideShapes Go.ChangeAt Go.RowKit
theorem own : ownKnob Try.prog.godebug = none := by kernel_rfl
theorem laidOut : laidOutB Try.prog = true := by kernel_rfl
theorem opens0 {H : Type} (enc : TypeId × Value → H) (W : World) : Opens enc Try.prog W 22 1 (fun s : Sl UInt8 => s.f) (fun x => InB W [] x.a x.c x.l) (fun x => List.length x.l) :=
  (opens_bys (by kernel_rfl : Try.prog.underlying 22 = some (.slice 5)) (by kernel_rfl) (by kernel_rfl : Try.prog.underlying 5 = some (.int .u8)) (by kernel_rfl) (by kernel_rfl))
theorem opens1 {H : Type} (enc : TypeId × Value → H) (W : World) : Opens enc Try.prog W 39 1 (fun s : Sl ((Int) × (Int) × (Sl UInt8) × (Int) × Unit) => s.f) (fun x => InS (fun p : (Int) × (Int) × (Sl UInt8) × (Int) × Unit => (fun n : Int => [.int .i64 n]) p.1 ++ (fun p : (Int) × (Sl UInt8) × (Int) × Unit => (fun n : Int => [.int .i64 n]) p.1 ++ (fun p : (Sl UInt8) × (Int) × Unit => (fun s : Sl UInt8 => s.f) p.1 ++ (fun p : (Int) × Unit => (fun n : Int => [.int .i64 n]) p.1 ++ (fun _ : Unit => []) p.2) p.2) p.2) p.2) 48 (fun x : (Int) × (Int) × (Sl UInt8) × (Int) × Unit => ((-9223372036854775808 ≤ x.1 ∧ x.1 ≤ 9223372036854775807) ∧ ((-9223372036854775808 ≤ x.2.1 ∧ x.2.1 ≤ 9223372036854775807) ∧ (InB W [] x.2.2.1.a x.2.2.1.c x.2.2.1.l ∧ ((-9223372036854775808 ≤ x.2.2.2.1 ∧ x.2.2.2.1 ≤ 9223372036854775807) ∧ (True)))))) W [] x.a x.c x.l) (fun x => (List.map (fun x => (0 + (0 + (List.length x.2.2.1.l + (0 + (0))))) + 1) x.l).sum) :=
  (opens_slice (by kernel_rfl : Try.prog.underlying 39 = some (.slice 46)) (by kernel_rfl) (by kernel_rfl) (opens_struct Try.underlying46 (by kernel_rfl) (opensF_cons (opens_i64 (by kernel_rfl : Try.prog.underlying 3 = some (.int .i64)) (by kernel_rfl)) rfl (opensF_cons (opens_i64 (by kernel_rfl : Try.prog.underlying 44 = some (.int .i64)) (by kernel_rfl)) rfl (opensF_cons (opens_bys (by kernel_rfl : Try.prog.underlying 22 = some (.slice 5)) (by kernel_rfl) (by kernel_rfl : Try.prog.underlying 5 = some (.int .u8)) (by kernel_rfl) (by kernel_rfl)) rfl (opensF_cons (opens_i64 (by kernel_rfl : Try.prog.underlying 3 = some (.int .i64)) (by kernel_rfl)) rfl opensF_nil))))))
set_option maxRecDepth 100000 in
theorem lifted (os : Os) (started : os.Started) (H : Type) (enc : TypeId × Value → H) (F : Stop.Interp) :
    ReturnsInHanded {} Try.checked os 6 .any ((Rows.OpenSpec.upto Rows.judgeRelaysSpec).pre6 enc Try.prog Try.f6 Rows.judgeRelaysUptoRow.domain false) (((Rows.OpenSpec.upto Rows.judgeRelaysSpec).at F).post enc Try.prog Try.f6 false true false false) := by
  refine returnsInHanded_of_cond_sized (C := Try.checked) (s := Rows.OpenSpec.upto Rows.judgeRelaysSpec) (k := Rows.uptoSmall) rfl own started (by kernel_rfl) Try.func6
    (OpenSpec.witness (enc := enc) (C := Try.checked) (s := Rows.OpenSpec.upto Rows.judgeRelaysSpec) (k := Rows.uptoSmall) rfl false ⟨#[], #[.slice none 0 0, .slice none 0 0], []⟩ 12 (by kernel_rfl) (by kernel_rfl) (by kernel_rfl)
      (x := ([.nil, .nil], [], [])) (by kernel_rfl) rfl (by kernel_rfl)) ?_
  intro W base args ds gs before hval0 hW _ hbulk0 hsz0 _
  have hval : ∀ (j : Nat) t v, Try.f6.params[j]? = some t → args[j]? = some v → Value.okWide Try.prog W .any base t v := hval0
  have hW' := hW
  obtain ⟨p, q, hA0, hV, rfl, _, _⟩ := hW
  have hA : DataW.TrodAll enc Try.prog W 0 (fun _ => true) true Try.f6.params.toList args.toList ds p := hA0
  have hsz : (DataW.weightsEach Try.prog (Try.f6.params.toList ++ []) (ds ++ gs)).all (· ≤ reachBytes) = true := hsz0
  rw [Try.params6] at hA hval hsz
  obtain ⟨v0, vs0, d0, ds0, p0, q0, hargs, rfl, rfl, h0, r0⟩ := trodAll_cons hA
  obtain ⟨v1, vs1, d1, ds1, p1, q1, rfl, rfl, rfl, h1, r1⟩ := trodAll_cons r0
  obtain ⟨rfl, rfl, rfl⟩ := trodAll_nil r1
  obtain rfl : args = #[v0, v1] := by cases args; simp_all
  obtain ⟨rfl, rfl⟩ := trodVars_none hV
  simp only [List.append_nil] at hsz
  have lt0 : ∀ x ∈ p0, x.block < W.heap.size := by obtain ⟨m, hm⟩ := h0; exact DataW.trod_lt m _ _ _ hm
  have lt1 : ∀ x ∈ p1, x.block < W.heap.size := by obtain ⟨m, hm⟩ := h1; exact DataW.trod_lt m _ _ _ hm
  have k0 := h0
  have z0 := sized_each (j := 0) (t := 22) (d := d0) hsz rfl rfl
  obtain ⟨⟨a_x, c_x, x⟩, e0, i_x, b0⟩ := open_one (opens0 enc W) h0 (one_slice Try.underlying22 (hval 0 22 v0 rfl rfl)) z0
  obtain rfl : v0 = .slice a_x (List.length x) c_x := List.singleton_inj.1 e0
  have k1 := h1
  have z1 := sized_each (j := 1) (t := 39) (d := d1) hsz rfl rfl
  obtain ⟨⟨a_l, c_l, l⟩, e1, i_l, b1⟩ := open_one (opens1 enc W) h1 (one_slice Try.underlying39 (hval 1 39 v1 rfl rfl)) z1
  obtain rfl : v1 = .slice a_l (List.length l) c_l := List.singleton_inj.1 e1
  have hbulk := bulk_at (ds := [d0, d1] ++ []) hbulk0
  simp only [List.append_nil, Rows.uptoBulkAll] at hbulk
  have c0 : List.length x + 1 ≤ Rows.uptoBulk d0 := b0
  have c1 : (List.map (fun x => (0 + (0 + (List.length x.2.2.1.l + (0 + (0))))) + 1) l).sum + 1 ≤ Rows.uptoBulk d1 := b1
  have hB : (List.length x) + ((List.map (fun x => (0 + (0 + (List.length x.2.2.1.l + (0 + (0))))) + 1) l).sum) ≤ 1048576 := by omega
  refine (relays_walk a_x c_x x a_l c_l l W i_x i_l hB).mono fun e W' ⟨he, hev⟩ => ?_
  have bel := hev.below
  subst he
  exact ⟨_, rfl, _, _, _, [], _, [], hW', trodAll_mk1 (shut_bool (by kernel_rfl) _), (trodAll_cons_mk (Below.trod laidOut (by kernel_rfl) (of_decide_eq_true (by kernel_rfl)) k0 bel lt0) (trodAll_cons_mk (Below.trod laidOut (by kernel_rfl) (of_decide_eq_true (by kernel_rfl)) k1 bel lt1) trodAll_mk0)), rfl, bel.frame _, fun h => by cases h⟩
theorem over : Rows.judgeRelaysUptoRow.holds Try.pinned (Rows.OpenSpec.upto Rows.judgeRelaysSpec) :=
  OpenClaim.holds_of_cond 6 Try.f6 rfl rfl rfl rfl rfl rfl rfl ⟨rfl, rfl, rfl, rfl, rfl⟩ rfl rfl rfl rfl rfl (by kernel_rfl) Try.func6 (by kernel_rfl)
    (of_decide_eq_true (by kernel_rfl)) (by unfold Func.isWrapper; first | (rw [if_pos (by decide +kernel)]; kernel_rfl) | (rw [if_neg (by decide +kernel)]; exact ⟨rfl, rfl⟩))
    (fun os started H enc _ F => lifted os started H enc F)
/-- the given statement -/
theorem proved : Rows.JudgeRelaysUptoSaid := over
#print axioms proved
end Go.Proofs.Ytjecaljhipfbfaa.judgeRelays
