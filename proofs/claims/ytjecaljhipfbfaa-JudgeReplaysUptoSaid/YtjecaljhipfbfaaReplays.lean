/- JudgeReplays returns true for every story and more bytes, together of bulk at most 1048576. -/
import Derived.Test.YtjecaljhipfbfaaJ13
import Derived.Test.YtjecaljhipfbfaaShape
import Derived.Deep.CondSized
set_option linter.unusedVariables false
namespace Go.Proofs.Ytjecaljhipfbfaa.judgeReplays
open Go Go.Dbr Go.ChangeShapes Go.WideShapes Go.ChangeAt Go.RowKit
theorem own : ownKnob Try.prog.godebug = none := by kernel_rfl
theorem laidOut : laidOutB Try.prog = true := by kernel_rfl
theorem opens0 {H : Type} (enc : TypeId × Value → H) (W : World) : Opens enc Try.prog W 26 9 (fun p : (Sl UInt8) × ((Sl UInt8) × (Sl UInt8) × (Bool) × (Bool) × Unit) × ((Sl UInt8) × (Sl UInt8) × (Bool) × (Bool) × Unit) × Unit => (fun s : Sl UInt8 => s.f) p.1 ++ (fun p : ((Sl UInt8) × (Sl UInt8) × (Bool) × (Bool) × Unit) × ((Sl UInt8) × (Sl UInt8) × (Bool) × (Bool) × Unit) × Unit => (fun p : (Sl UInt8) × (Sl UInt8) × (Bool) × (Bool) × Unit => (fun s : Sl UInt8 => s.f) p.1 ++ (fun p : (Sl UInt8) × (Bool) × (Bool) × Unit => (fun s : Sl UInt8 => s.f) p.1 ++ (fun p : (Bool) × (Bool) × Unit => (fun b : Bool => [.bool b]) p.1 ++ (fun p : (Bool) × Unit => (fun b : Bool => [.bool b]) p.1 ++ (fun _ : Unit => []) p.2) p.2) p.2) p.2) p.1 ++ (fun p : ((Sl UInt8) × (Sl UInt8) × (Bool) × (Bool) × Unit) × Unit => (fun p : (Sl UInt8) × (Sl UInt8) × (Bool) × (Bool) × Unit => (fun s : Sl UInt8 => s.f) p.1 ++ (fun p : (Sl UInt8) × (Bool) × (Bool) × Unit => (fun s : Sl UInt8 => s.f) p.1 ++ (fun p : (Bool) × (Bool) × Unit => (fun b : Bool => [.bool b]) p.1 ++ (fun p : (Bool) × Unit => (fun b : Bool => [.bool b]) p.1 ++ (fun _ : Unit => []) p.2) p.2) p.2) p.2) p.1 ++ (fun _ : Unit => []) p.2) p.2) p.2) (fun x => (InB W [] x.1.a x.1.c x.1.l ∧ ((InB W [] x.2.1.1.a x.2.1.1.c x.2.1.1.l ∧ (InB W [] x.2.1.2.1.a x.2.1.2.1.c x.2.1.2.1.l ∧ (True ∧ (True ∧ (True))))) ∧ ((InB W [] x.2.2.1.1.a x.2.2.1.1.c x.2.2.1.1.l ∧ (InB W [] x.2.2.1.2.1.a x.2.2.1.2.1.c x.2.2.1.2.1.l ∧ (True ∧ (True ∧ (True))))) ∧ (True))))) (fun x => (List.length x.1.l + ((List.length x.2.1.1.l + (List.length x.2.1.2.1.l + (0 + (0 + (0))))) + ((List.length x.2.2.1.1.l + (List.length x.2.2.1.2.1.l + (0 + (0 + (0))))) + (0))))) :=
  (opens_struct Try.underlying26 (by kernel_rfl) (opensF_cons (opens_bys (by kernel_rfl : Try.prog.underlying 22 = some (.slice 5)) (by kernel_rfl) (by kernel_rfl : Try.prog.underlying 5 = some (.int .u8)) (by kernel_rfl) (by kernel_rfl)) rfl (opensF_cons (opens_struct Try.underlying24 (by kernel_rfl) (opensF_cons (opens_bys (by kernel_rfl : Try.prog.underlying 22 = some (.slice 5)) (by kernel_rfl) (by kernel_rfl : Try.prog.underlying 5 = some (.int .u8)) (by kernel_rfl) (by kernel_rfl)) rfl (opensF_cons (opens_bys (by kernel_rfl : Try.prog.underlying 22 = some (.slice 5)) (by kernel_rfl) (by kernel_rfl : Try.prog.underlying 5 = some (.int .u8)) (by kernel_rfl) (by kernel_rfl)) rfl (opensF_cons (opens_bool (by kernel_rfl : Try.prog.underlying 4 = some .bool) (by kernel_rfl)) rfl (opensF_cons (opens_bool (by kernel_rfl : Try.prog.underlying 4 = some .bool) (by kernel_rfl)) rfl opensF_nil))))) rfl (opensF_cons (opens_struct Try.underlying24 (by kernel_rfl) (opensF_cons (opens_bys (by kernel_rfl : Try.prog.underlying 22 = some (.slice 5)) (by kernel_rfl) (by kernel_rfl : Try.prog.underlying 5 = some (.int .u8)) (by kernel_rfl) (by kernel_rfl)) rfl (opensF_cons (opens_bys (by kernel_rfl : Try.prog.underlying 22 = some (.slice 5)) (by kernel_rfl) (by kernel_rfl : Try.prog.underlying 5 = some (.int .u8)) (by kernel_rfl) (by kernel_rfl)) rfl (opensF_cons (opens_bool (by kernel_rfl : Try.prog.underlying 4 = some .bool) (by kernel_rfl)) rfl (opensF_cons (opens_bool (by kernel_rfl : Try.prog.underlying 4 = some .bool) (by kernel_rfl)) rfl opensF_nil))))) rfl opensF_nil))))
theorem opens1 {H : Type} (enc : TypeId × Value → H) (W : World) : Opens enc Try.prog W 22 1 (fun s : Sl UInt8 => s.f) (fun x => InB W [] x.a x.c x.l) (fun x => List.length x.l) :=
  (opens_bys (by kernel_rfl : Try.prog.underlying 22 = some (.slice 5)) (by kernel_rfl) (by kernel_rfl : Try.prog.underlying 5 = some (.int .u8)) (by kernel_rfl) (by kernel_rfl))
set_option maxRecDepth 100000 in
theorem lifted (os : Os) (started : os.Started) (H : Type) (enc : TypeId × Value → H) (F : Stop.Interp) :
    ReturnsInHanded {} Try.checked os 7 .any ((Rows.OpenSpec.upto Rows.judgeReplaysSpec).pre6 enc Try.prog Try.f7 Rows.judgeReplaysUptoRow.domain false) (((Rows.OpenSpec.upto Rows.judgeReplaysSpec).at F).post enc Try.prog Try.f7 false true false false) := by
  refine returnsInHanded_of_cond_sized (C := Try.checked) (s := Rows.OpenSpec.upto Rows.judgeReplaysSpec) (k := Rows.uptoSmall) rfl own started (by kernel_rfl) Try.func7
    (OpenSpec.witness (enc := enc) (C := Try.checked) (s := Rows.OpenSpec.upto Rows.judgeReplaysSpec) (k := Rows.uptoSmall) rfl false ⟨#[], #[.agg #[.slice none 0 0, .slice none 0 0, .slice none 0 0, .bool false, .bool false, .slice none 0 0, .slice none 0 0, .bool false, .bool false], .slice none 0 0], []⟩ 12 (by kernel_rfl) (by kernel_rfl) (by kernel_rfl)
      (x := ([.agg [.nil, .agg [.nil, .nil, .lit (.bool false), .lit (.bool false)], .agg [.nil, .nil, .lit (.bool false), .lit (.bool false)]], .nil], [], [])) (by kernel_rfl) rfl (by kernel_rfl)) ?_
  intro W base args ds gs before hval0 hW _ hbulk0 hsz0 _
  have hval : ∀ (j : Nat) t v, Try.f7.params[j]? = some t → args[j]? = some v → Value.okWide Try.prog W .any base t v := hval0
  have hW' := hW
  obtain ⟨p, q, hA0, hV, rfl, _, _⟩ := hW
  have hA : DataW.TrodAll enc Try.prog W 0 (fun _ => true) true Try.f7.params.toList args.toList ds p := hA0
  have hsz : (DataW.weightsEach Try.prog (Try.f7.params.toList ++ []) (ds ++ gs)).all (· ≤ reachBytes) = true := hsz0
  rw [Try.params7] at hA hval hsz
  obtain ⟨v0, vs0, d0, ds0, p0, q0, hargs, rfl, rfl, h0, r0⟩ := trodAll_cons hA
  obtain ⟨v1, vs1, d1, ds1, p1, q1, rfl, rfl, rfl, h1, r1⟩ := trodAll_cons r0
  obtain ⟨rfl, rfl, rfl⟩ := trodAll_nil r1
  obtain rfl : args = #[v0, v1] := by cases args; simp_all
  obtain ⟨rfl, rfl⟩ := trodVars_none hV
  simp only [List.append_nil] at hsz
  have lt0 : ∀ x ∈ p0, x.block < W.heap.size := by obtain ⟨m, hm⟩ := h0; exact DataW.trod_lt m _ _ _ hm
  have lt1 : ∀ x ∈ p1, x.block < W.heap.size := by obtain ⟨m, hm⟩ := h1; exact DataW.trod_lt m _ _ _ hm
  have k0 := h0
  have z0 := sized_each (j := 0) (t := 26) (d := d0) hsz rfl rfl
  obtain ⟨⟨⟨a_sa, c_sa, sa⟩, ⟨⟨a_sba, c_sba, sba⟩, ⟨a_sbb, c_sbb, sbb⟩, sbc, sbd, _⟩, ⟨⟨a_sca, c_sca, sca⟩, ⟨a_scb, c_scb, scb⟩, scc, scd, _⟩, _⟩, e0, ⟨i_sa, ⟨i_sba, i_sbb, _, _, _⟩, ⟨i_sca, i_scb, _, _, _⟩, _⟩, b0⟩ := open_many (opens0 enc W) h0 (okWide_agg (.inl ⟨_, Try.underlying26⟩) (hval 0 26 v0 rfl rfl)) z0
  obtain rfl : v0 = .agg #[.slice a_sa (List.length sa) c_sa, .slice a_sba (List.length sba) c_sba, .slice a_sbb (List.length sbb) c_sbb, .bool sbc, .bool sbd, .slice a_sca (List.length sca) c_sca, .slice a_scb (List.length scb) c_scb, .bool scc, .bool scd] := e0
  have k1 := h1
  have z1 := sized_each (j := 1) (t := 22) (d := d1) hsz rfl rfl
  obtain ⟨⟨a_m, c_m, m⟩, e1, i_m, b1⟩ := open_one (opens1 enc W) h1 (one_slice Try.underlying22 (hval 1 22 v1 rfl rfl)) z1
  obtain rfl : v1 = .slice a_m (List.length m) c_m := List.singleton_inj.1 e1
  have hbulk := bulk_at (ds := [d0, d1] ++ []) hbulk0
  simp only [List.append_nil, Rows.uptoBulkAll] at hbulk
  have c0 : (List.length sa + ((List.length sba + (List.length sbb + (0 + (0 + (0))))) + ((List.length sca + (List.length scb + (0 + (0 + (0))))) + (0)))) + 1 ≤ Rows.uptoBulk d0 := b0
  have c1 : List.length m + 1 ≤ Rows.uptoBulk d1 := b1
  have hB : (List.length sa + ((List.length sba + (List.length sbb + (0 + (0 + (0))))) + ((List.length sca + (List.length scb + (0 + (0 + (0))))) + (0)))) + (List.length m) ≤ 1048576 := by omega
  refine (replays_walk a_sa c_sa sa a_sba c_sba sba a_sbb c_sbb sbb sbc sbd a_sca c_sca sca a_scb c_scb scb scc scd a_m c_m m W i_sa i_sba i_sbb i_sca i_scb i_m hB).mono fun e W' ⟨he, hev⟩ => ?_
  have bel := hev.below
  subst he
  exact ⟨_, rfl, _, _, _, [], _, [], hW', trodAll_mk1 (shut_bool (by kernel_rfl) _), (trodAll_cons_mk (Below.trod laidOut (by kernel_rfl) (of_decide_eq_true (by kernel_rfl)) k0 bel lt0) (trodAll_cons_mk (Below.trod laidOut (by kernel_rfl) (of_decide_eq_true (by kernel_rfl)) k1 bel lt1) trodAll_mk0)), rfl, bel.frame _, fun h => by cases h⟩
theorem over : Rows.judgeReplaysUptoRow.holds Try.pinned (Rows.OpenSpec.upto Rows.judgeReplaysSpec) :=
  OpenClaim.holds_of_cond 7 Try.f7 rfl rfl rfl rfl rfl rfl rfl ⟨rfl, rfl, rfl, rfl, rfl⟩ rfl rfl rfl rfl rfl (by kernel_rfl) Try.func7 (by kernel_rfl)
    (of_decide_eq_true (by kernel_rfl)) (by unfold Func.isWrapper; first | (rw [if_pos (by decide +kernel)]; kernel_rfl) | (rw [if_neg (by decide +kernel)]; exact ⟨rfl, rfl⟩))
    (fun os started H enc _ F => lifted os started H enc F)
/-- the given statement -/
theorem proved : Rows.JudgeReplaysUptoSaid := over
#print axioms proved
end Go.Proofs.Ytjecaljhipfbfaa.judgeReplays
