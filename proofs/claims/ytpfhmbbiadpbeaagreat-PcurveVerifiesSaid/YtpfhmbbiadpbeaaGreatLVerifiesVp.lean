import Derived.Test.YtpfhmbbiadpbeaaGreatVp13
import Derived.Test.YtpfhmbbiadpbeaaGreatVp1
/- PcurveVerifies returns true for all numbers, bytes, points, bits. -/


set_option linter.unusedVariables false
namespace Go.Proofs.YtpfhmbbiadpbeaaGreat.pcurveVerifies
open Go Go.Dbr Go.ChangeShapes Go.WideShapes Go.ChangeAt Go.RowKit
theorem own : ownKnob Tryz.prog.godebug = none := by kernel_rfl
theorem laidOut : laidOutB Tryz.prog = true := by kernel_rfl
set_option maxRecDepth 99999 in
theorem opens0 {H : Type} (enc : TypeId × Value → H) (W : World) : Opens enc Tryz.prog W 24 4 (fun l : List UInt64 => u64s l) (fun x => (List.length x = 4)) (fun x => 0) :=
  (opens_u64arr (by kernel_rfl : Tryz.prog.underlying 24 = some (.array 4 22)) (by kernel_rfl) (by kernel_rfl : Tryz.prog.underlying 22 = some (.int .u64)) (by kernel_rfl))
set_option maxRecDepth 99999 in
theorem opens1 {H : Type} (enc : TypeId × Value → H) (W : World) : Opens enc Tryz.prog W 25 1 (fun s : Sl UInt8 => s.f) (fun x => InB W [] x.a x.c x.l) (fun x => List.length x.l) :=
  (opens_bys (by kernel_rfl : Tryz.prog.underlying 25 = some (.slice 5)) (by kernel_rfl) (by kernel_rfl : Tryz.prog.underlying 5 = some (.int .u8)) (by kernel_rfl) (by kernel_rfl))
set_option maxRecDepth 99999 in
theorem opens2 {H : Type} (enc : TypeId × Value → H) (W : World) : Opens enc Tryz.prog W 27 9 (fun p : (Bool) × (List UInt64) × (List UInt64) × Unit => (fun b : Bool => [.bool b]) p.1 ++ (fun p : (List UInt64) × (List UInt64) × Unit => (fun l : List UInt64 => u64s l) p.1 ++ (fun p : (List UInt64) × Unit => (fun l : List UInt64 => u64s l) p.1 ++ (fun _ : Unit => []) p.2) p.2) p.2) (fun x => (True ∧ ((List.length x.2.1 = 4) ∧ ((List.length x.2.2.1 = 4) ∧ (True))))) (fun x => (0 + (0 + (0 + (0))))) :=
  (opens_struct Tryz.underlying27 (by kernel_rfl) (opensF_cons (opens_bool (by kernel_rfl : Tryz.prog.underlying 4 = some .bool) (by kernel_rfl)) rfl (opensF_cons (opens_u64arr (by kernel_rfl : Tryz.prog.underlying 24 = some (.array 4 22)) (by kernel_rfl) (by kernel_rfl : Tryz.prog.underlying 22 = some (.int .u64)) (by kernel_rfl)) rfl (opensF_cons (opens_u64arr (by kernel_rfl : Tryz.prog.underlying 24 = some (.array 4 22)) (by kernel_rfl) (by kernel_rfl : Tryz.prog.underlying 22 = some (.int .u64)) (by kernel_rfl)) rfl opensF_nil))))
set_option maxRecDepth 99999 in
theorem opens3 {H : Type} (enc : TypeId × Value → H) (W : World) : Opens enc Tryz.prog W 24 4 (fun l : List UInt64 => u64s l) (fun x => (List.length x = 4)) (fun x => 0) :=
  (opens_u64arr (by kernel_rfl : Tryz.prog.underlying 24 = some (.array 4 22)) (by kernel_rfl) (by kernel_rfl : Tryz.prog.underlying 22 = some (.int .u64)) (by kernel_rfl))
set_option maxRecDepth 99999 in
theorem opens4 {H : Type} (enc : TypeId × Value → H) (W : World) : Opens enc Tryz.prog W 24 4 (fun l : List UInt64 => u64s l) (fun x => (List.length x = 4)) (fun x => 0) :=
  (opens_u64arr (by kernel_rfl : Tryz.prog.underlying 24 = some (.array 4 22)) (by kernel_rfl) (by kernel_rfl : Tryz.prog.underlying 22 = some (.int .u64)) (by kernel_rfl))
set_option maxRecDepth 99999 in
theorem opens5 {H : Type} (enc : TypeId × Value → H) (W : World) : Opens enc Tryz.prog W 28 1 (fun n : UInt16 => [uv16 n]) (fun x => True) (fun x => 0) :=
  (opens_u16 (by kernel_rfl : Tryz.prog.underlying 28 = some (.int .u16)) (by kernel_rfl))
set_option maxRecDepth 100000 in
theorem lifted (os : Os) (started : os.Started) (H : Type) (enc : TypeId × Value → H) :
    ReturnsInHanded {} Tryz.checked os 3 .any (Rows.pcurveVerifiesSpec.pre6 enc Tryz.prog Tryz.f3 Rows.pcurveVerifiesRow.domain false) (Rows.pcurveVerifiesSpec.post enc Tryz.prog Tryz.f3 false true false false) := by
  refine returnsInHanded_of_change_sized (C := Tryz.checked) own started (by kernel_rfl) Tryz.func3
    (ChangeSpec.witness6 (enc := enc) (C := Tryz.checked) false ⟨#[], #[.agg #[.int .u64 0, .int .u64 0, .int .u64 0, .int .u64 0], .slice none 0 0, .agg #[.bool false, .int .u64 0, .int .u64 0, .int .u64 0, .int .u64 0, .int .u64 0, .int .u64 0, .int .u64 0, .int .u64 0], .agg #[.int .u64 0, .int .u64 0, .int .u64 0, .int .u64 0], .agg #[.int .u64 0, .int .u64 0, .int .u64 0, .int .u64 0], .int .u16 0], []⟩ 12 (by kernel_rfl) (by kernel_rfl) (by kernel_rfl) (by kernel_rfl)) ?_
  intro W base args ds gs before hval0 hW _ hsz0 _
  have hval : ∀ (j : Nat) t v, Tryz.f3.params[j]? = some t → args[j]? = some v → Value.okWide Tryz.prog W .any base t v := hval0
  have hW' := hW
  obtain ⟨p, q, hA0, hV, rfl, _, _⟩ := hW
  have hA : DataW.TrodAll enc Tryz.prog W 0 (fun _ => true) true Tryz.f3.params.toList args.toList ds p := hA0
  have hsz : (DataW.weightsEach Tryz.prog (Tryz.f3.params.toList ++ []) (ds ++ gs)).all (· ≤ reachBytes) = true := hsz0
  rw [Tryz.params3] at hA hval hsz
  obtain ⟨v0, vs0, d0, ds0, p0, q0, hargs, rfl, rfl, h0, r0⟩ := trodAll_cons hA
  obtain ⟨v1, vs1, d1, ds1, p1, q1, rfl, rfl, rfl, h1, r1⟩ := trodAll_cons r0
  obtain ⟨v2, vs2, d2, ds2, p2, q2, rfl, rfl, rfl, h2, r2⟩ := trodAll_cons r1
  obtain ⟨v3, vs3, d3, ds3, p3, q3, rfl, rfl, rfl, h3, r3⟩ := trodAll_cons r2
  obtain ⟨v4, vs4, d4, ds4, p4, q4, rfl, rfl, rfl, h4, r4⟩ := trodAll_cons r3
  obtain ⟨v5, vs5, d5, ds5, p5, q5, rfl, rfl, rfl, h5, r5⟩ := trodAll_cons r4
  obtain ⟨rfl, rfl, rfl⟩ := trodAll_nil r5
  obtain rfl : args = #[v0, v1, v2, v3, v4, v5] := by cases args; simp_all
  obtain ⟨rfl, rfl⟩ := trodVars_none hV
  simp only [List.append_nil] at hsz
  have lt0 : ∀ x ∈ p0, x.block < W.heap.size := by obtain ⟨m, hm⟩ := h0; exact DataW.trod_lt m _ _ _ hm
  have lt1 : ∀ x ∈ p1, x.block < W.heap.size := by obtain ⟨m, hm⟩ := h1; exact DataW.trod_lt m _ _ _ hm
  have lt2 : ∀ x ∈ p2, x.block < W.heap.size := by obtain ⟨m, hm⟩ := h2; exact DataW.trod_lt m _ _ _ hm
  have lt3 : ∀ x ∈ p3, x.block < W.heap.size := by obtain ⟨m, hm⟩ := h3; exact DataW.trod_lt m _ _ _ hm
  have lt4 : ∀ x ∈ p4, x.block < W.heap.size := by obtain ⟨m, hm⟩ := h4; exact DataW.trod_lt m _ _ _ hm
  have lt5 : ∀ x ∈ p5, x.block < W.heap.size := by obtain ⟨m, hm⟩ := h5; exact DataW.trod_lt m _ _ _ hm
  have k0 := h0
  have z0 := sized_each (j := 0) (t := 24) (d := d0) hsz rfl rfl
  obtain ⟨d, e0, n_d, b0⟩ := open_many (opens0 enc W) h0 (okWide_agg (.inr ⟨_, _, Tryz.underlying24⟩) (hval 0 24 v0 rfl rfl)) z0
  obtain rfl : v0 = .agg (List.toArray (u64s d)) := (by first | exact e0 | exact e0.trans (by simp only [List.append_nil]))
  have k1 := h1
  have z1 := sized_each (j := 1) (t := 25) (d := d1) hsz rfl rfl
  obtain ⟨⟨a_m, c_m, m⟩, e1, i_m, b1⟩ := open_one (opens1 enc W) h1 (one_slice Tryz.underlying25 (hval 1 25 v1 rfl rfl)) z1
  obtain rfl : v1 = .slice a_m (List.length m) c_m := List.singleton_inj.1 e1
  have k2 := h2
  have z2 := sized_each (j := 2) (t := 27) (d := d2) hsz rfl rfl
  obtain ⟨⟨pa, pb, pc, _⟩, e2, ⟨_, n_pb, n_pc, _⟩, b2⟩ := open_many (opens2 enc W) h2 (okWide_agg (.inl ⟨_, Tryz.underlying27⟩) (hval 2 27 v2 rfl rfl)) z2
  obtain rfl : v2 = .agg (List.toArray (([.bool pa] : List Value) ++ ((u64s pb) ++ (u64s pc)))) := (by first | exact e2 | exact e2.trans (by simp only [List.append_nil]))
  have k3 := h3
  have z3 := sized_each (j := 3) (t := 24) (d := d3) hsz rfl rfl
  obtain ⟨r, e3, n_r, b3⟩ := open_many (opens3 enc W) h3 (okWide_agg (.inr ⟨_, _, Tryz.underlying24⟩) (hval 3 24 v3 rfl rfl)) z3
  obtain rfl : v3 = .agg (List.toArray (u64s r)) := (by first | exact e3 | exact e3.trans (by simp only [List.append_nil]))
  have k4 := h4
  have z4 := sized_each (j := 4) (t := 24) (d := d4) hsz rfl rfl
  obtain ⟨s, e4, n_s, b4⟩ := open_many (opens4 enc W) h4 (okWide_agg (.inr ⟨_, _, Tryz.underlying24⟩) (hval 4 24 v4 rfl rfl)) z4
  obtain rfl : v4 = .agg (List.toArray (u64s s)) := (by first | exact e4 | exact e4.trans (by simp only [List.append_nil]))
  have k5 := h5
  have z5 := sized_each (j := 5) (t := 28) (d := d5) hsz rfl rfl
  obtain ⟨b, e5, _, b5⟩ := open_one (opens5 enc W) h5 (one_int Tryz.underlying28 (hval 5 28 v5 rfl rfl)) z5
  obtain rfl : v5 = .int .u16 ((UInt16.toNat b : Nat) : Int) := List.singleton_inj.1 e5
  refine (verifies_walk d a_m c_m m pa pb pc r s b W n_d i_m n_pb n_pc n_r n_s).mono fun e W' ⟨he, hev⟩ => ?_
  have bel := hev.below
  subst he
  exact ⟨_, rfl, _, _, _, [], _, [], hW', trodAll_mk1 (shut_bool (by kernel_rfl) _), (trodAll_cons_mk (Below.trod laidOut (by kernel_rfl) (of_decide_eq_true (by kernel_rfl)) k0 bel lt0) (trodAll_cons_mk (Below.trod laidOut (by kernel_rfl) (of_decide_eq_true (by kernel_rfl)) k1 bel lt1) (trodAll_cons_mk (Below.trod laidOut (by kernel_rfl) (of_decide_eq_true (by kernel_rfl)) k2 bel lt2) (trodAll_cons_mk (Below.trod laidOut (by kernel_rfl) (of_decide_eq_true (by kernel_rfl)) k3 bel lt3) (trodAll_cons_mk (Below.trod laidOut (by kernel_rfl) (of_decide_eq_true (by kernel_rfl)) k4 bel lt4) (trodAll_cons_mk (Below.trod laidOut (by kernel_rfl) (of_decide_eq_true (by kernel_rfl)) k5 bel lt5) trodAll_mk0)))))), rfl, bel.frame _, fun h => by cases h⟩
theorem over : Rows.pcurveVerifiesRow.holds Tryz.pinned (OpenSpec.ofChange Rows.pcurveVerifiesSpec) :=
  OpenClaim.holds_of_wide 3 Tryz.f3 rfl rfl rfl rfl rfl rfl rfl ⟨rfl, rfl, rfl, rfl, rfl⟩ rfl rfl rfl rfl rfl (by kernel_rfl) Tryz.func3 (by kernel_rfl)
    (of_decide_eq_true (by kernel_rfl)) (by unfold Func.isWrapper; first | (rw [if_pos (by decide +kernel)]; kernel_rfl) | (rw [if_neg (by decide +kernel)]; exact ⟨rfl, rfl⟩))
    (fun os started H enc _ => lifted os started H enc)
/-- the given statement -/
theorem proved : Rows.PcurveVerifiesSaid := over
#print axioms proved
end Go.Proofs.YtpfhmbbiadpbeaaGreat.pcurveVerifies
