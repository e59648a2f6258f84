/- ChachaOpens returns true for every key, nonce, text aside, sealed text, place and byte. -/
import Derived.Test.YtnahplggflhdaaaC10
import Derived.Test.YtnahplggflhdaaaShape
import Derived.Deep.CondSized
set_option linter.unusedVariables false
namespace Go.Proofs.Ytnahplggflhdaaa.chachaOpens
open Go Go.Dbr Go.ChangeShapes Go.WideShapes Go.ChangeAt Go.RowKit
theorem own : ownKnob Try.prog.godebug = none := by kernel_rfl
theorem laidOut : laidOutB Try.prog = true := by kernel_rfl
theorem opens0 {H : Type} (enc : TypeId × Value → H) (W : World) : Opens enc Try.prog W 22 32 (fun l : List UInt8 => bys l) (fun x => (List.length x = 32)) (fun x => 0) :=
  (opens_byarr (by kernel_rfl : Try.prog.underlying 22 = some (.array 32 5)) (by kernel_rfl) (by kernel_rfl : Try.prog.underlying 5 = some (.int .u8)) (by kernel_rfl))
theorem opens1 {H : Type} (enc : TypeId × Value → H) (W : World) : Opens enc Try.prog W 24 12 (fun l : List UInt8 => bys l) (fun x => (List.length x = 12)) (fun x => 0) :=
  (opens_byarr (by kernel_rfl : Try.prog.underlying 24 = some (.array 12 5)) (by kernel_rfl) (by kernel_rfl : Try.prog.underlying 5 = some (.int .u8)) (by kernel_rfl))
theorem opens2 {H : Type} (enc : TypeId × Value → H) (W : World) : Opens enc Try.prog W 25 1 (fun s : Sl UInt8 => s.f) (fun x => InB W [] x.a x.c x.l) (fun x => List.length x.l) :=
  (opens_bys (by kernel_rfl : Try.prog.underlying 25 = some (.slice 5)) (by kernel_rfl) (by kernel_rfl : Try.prog.underlying 5 = some (.int .u8)) (by kernel_rfl) (by kernel_rfl))
theorem opens3 {H : Type} (enc : TypeId × Value → H) (W : World) : Opens enc Try.prog W 25 1 (fun s : Sl UInt8 => s.f) (fun x => InB W [] x.a x.c x.l) (fun x => List.length x.l) :=
  (opens_bys (by kernel_rfl : Try.prog.underlying 25 = some (.slice 5)) (by kernel_rfl) (by kernel_rfl : Try.prog.underlying 5 = some (.int .u8)) (by kernel_rfl) (by kernel_rfl))
theorem opens4 {H : Type} (enc : TypeId × Value → H) (W : World) : Opens enc Try.prog W 40 1 (fun n : UInt16 => [uv16 n]) (fun x => True) (fun x => 0) :=
  (opens_u16 (by kernel_rfl : Try.prog.underlying 40 = some (.int .u16)) (by kernel_rfl))
theorem opens5 {H : Type} (enc : TypeId × Value → H) (W : World) : Opens enc Try.prog W 5 1 (fun n : UInt8 => [bv n]) (fun x => True) (fun x => 0) :=
  (opens_u8 (by kernel_rfl : Try.prog.underlying 5 = some (.int .u8)) (by kernel_rfl))
set_option maxRecDepth 100000 in
theorem lifted (os : Os) (started : os.Started) (H : Type) (enc : TypeId × Value → H) (F : Stop.Interp) :
    ReturnsInHanded {} Try.checked os 7 .any ((Rows.OpenSpec.upto Rows.chachaOpensSpec).pre6 enc Try.prog Try.f7 Rows.chachaOpensUptoRow.domain false) (((Rows.OpenSpec.upto Rows.chachaOpensSpec).at F).post enc Try.prog Try.f7 false true false false) := by
  refine returnsInHanded_of_cond_sized (C := Try.checked) (s := Rows.OpenSpec.upto Rows.chachaOpensSpec) (k := Rows.uptoSmall) rfl own started (by kernel_rfl) Try.func7
    (OpenSpec.witness (enc := enc) (C := Try.checked) (s := Rows.OpenSpec.upto Rows.chachaOpensSpec) (k := Rows.uptoSmall) rfl false ⟨#[], #[.agg #[.int .u8 0, .int .u8 0, .int .u8 0, .int .u8 0, .int .u8 0, .int .u8 0, .int .u8 0, .int .u8 0, .int .u8 0, .int .u8 0, .int .u8 0, .int .u8 0, .int .u8 0, .int .u8 0, .int .u8 0, .int .u8 0, .int .u8 0, .int .u8 0, .int .u8 0, .int .u8 0, .int .u8 0, .int .u8 0, .int .u8 0, .int .u8 0, .int .u8 0, .int .u8 0, .int .u8 0, .int .u8 0, .int .u8 0, .int .u8 0, .int .u8 0, .int .u8 0], .agg #[.int .u8 0, .int .u8 0, .int .u8 0, .int .u8 0, .int .u8 0, .int .u8 0, .int .u8 0, .int .u8 0, .int .u8 0, .int .u8 0, .int .u8 0, .int .u8 0], .slice none 0 0, .slice none 0 0, .int .u16 0, .int .u8 0], []⟩ 12 (by kernel_rfl) (by kernel_rfl) (by kernel_rfl)
      (x := ([.agg [.lit (.int .u8 0), .lit (.int .u8 0), .lit (.int .u8 0), .lit (.int .u8 0), .lit (.int .u8 0), .lit (.int .u8 0), .lit (.int .u8 0), .lit (.int .u8 0), .lit (.int .u8 0), .lit (.int .u8 0), .lit (.int .u8 0), .lit (.int .u8 0), .lit (.int .u8 0), .lit (.int .u8 0), .lit (.int .u8 0), .lit (.int .u8 0), .lit (.int .u8 0), .lit (.int .u8 0), .lit (.int .u8 0), .lit (.int .u8 0), .lit (.int .u8 0), .lit (.int .u8 0), .lit (.int .u8 0), .lit (.int .u8 0), .lit (.int .u8 0), .lit (.int .u8 0), .lit (.int .u8 0), .lit (.int .u8 0), .lit (.int .u8 0), .lit (.int .u8 0), .lit (.int .u8 0), .lit (.int .u8 0)], .agg [.lit (.int .u8 0), .lit (.int .u8 0), .lit (.int .u8 0), .lit (.int .u8 0), .lit (.int .u8 0), .lit (.int .u8 0), .lit (.int .u8 0), .lit (.int .u8 0), .lit (.int .u8 0), .lit (.int .u8 0), .lit (.int .u8 0), .lit (.int .u8 0)], .nil, .nil, .lit (.int .u16 0), .lit (.int .u8 0)], [], [])) (by kernel_rfl) rfl (by kernel_rfl)) ?_
  intro W base args ds gs before hval0 hW _ hbulk0 hsz0 _
  have hval : ∀ (j : Nat) t v, Try.f7.params[j]? = some t → args[j]? = some v → Value.okWide Try.prog W .any base t v := hval0
  have hW' := hW
  obtain ⟨p, q, hA0, hV, rfl, _, _⟩ := hW
  have hA : DataW.TrodAll enc Try.prog W 0 (fun _ => true) true Try.f7.params.toList args.toList ds p := hA0
  have hsz : (DataW.weightsEach Try.prog (Try.f7.params.toList ++ []) (ds ++ gs)).all (· ≤ reachBytes) = true := hsz0
  rw [Try.params7] at hA hval hsz
  obtain ⟨v0, vs0, d0, ds0, p0, q0, hargs, rfl, rfl, h0, r0⟩ := trodAll_cons hA
  obtain ⟨v1, vs1, d1, ds1, p1, q1, rfl, rfl, rfl, h1, r1⟩ := trodAll_cons r0
  obtain ⟨v2, vs2, d2, ds2, p2, q2, rfl, rfl, rfl, h2, r2⟩ := trodAll_cons r1
  obtain ⟨v3, vs3, d3, ds3, p3, q3, rfl, rfl, rfl, h3, r3⟩ := trodAll_cons r2
  obtain ⟨v4, vs4, d4, ds4, p4, q4, rfl, rfl, rfl, h4, r4⟩ := trodAll_cons r3
  obtain ⟨v5, vs5, d5, ds5, p5, q5, rfl, rfl, rfl, h5, r5⟩ := trodAll_cons r4
  obtain ⟨rfl, rfl, rfl⟩ := trodAll_nil r5
  obtain rfl : args = #[v0, v1, v2, v3, v4, v5] := by cases args; simp_all
  obtain ⟨rfl, rfl⟩ := trodVars_none hV
  simp only [List.append_nil] at hsz
  have lt0 : ∀ x ∈ p0, x.block < W.heap.size := by obtain ⟨m, hm⟩ := h0; exact DataW.trod_lt m _ _ _ hm
  have lt1 : ∀ x ∈ p1, x.block < W.heap.size := by obtain ⟨m, hm⟩ := h1; exact DataW.trod_lt m _ _ _ hm
  have lt2 : ∀ x ∈ p2, x.block < W.heap.size := by obtain ⟨m, hm⟩ := h2; exact DataW.trod_lt m _ _ _ hm
  have lt3 : ∀ x ∈ p3, x.block < W.heap.size := by obtain ⟨m, hm⟩ := h3; exact DataW.trod_lt m _ _ _ hm
  have lt4 : ∀ x ∈ p4, x.block < W.heap.size := by obtain ⟨m, hm⟩ := h4; exact DataW.trod_lt m _ _ _ hm
  have lt5 : ∀ x ∈ p5, x.block < W.heap.size := by obtain ⟨m, hm⟩ := h5; exact DataW.trod_lt m _ _ _ hm
  have k0 := h0
  have z0 := sized_each (j := 0) (t := 22) (d := d0) hsz rfl rfl
  obtain ⟨k, e0, n_k, b0⟩ := open_many (opens0 enc W) h0 (okWide_agg (.inr ⟨_, _, Try.underlying22⟩) (hval 0 22 v0 rfl rfl)) z0
  obtain rfl : v0 = .agg (List.toArray (bys k)) := e0
  have k1 := h1
  have z1 := sized_each (j := 1) (t := 24) (d := d1) hsz rfl rfl
  obtain ⟨n, e1, n_n, b1⟩ := open_many (opens1 enc W) h1 (okWide_agg (.inr ⟨_, _, Try.underlying24⟩) (hval 1 24 v1 rfl rfl)) z1
  obtain rfl : v1 = .agg (List.toArray (bys n)) := e1
  have k2 := h2
  have z2 := sized_each (j := 2) (t := 25) (d := d2) hsz rfl rfl
  obtain ⟨⟨a_a, c_a, a⟩, e2, i_a, b2⟩ := open_one (opens2 enc W) h2 (one_slice Try.underlying25 (hval 2 25 v2 rfl rfl)) z2
  obtain rfl : v2 = .slice a_a (List.length a) c_a := List.singleton_inj.1 e2
  have k3 := h3
  have z3 := sized_each (j := 3) (t := 25) (d := d3) hsz rfl rfl
  obtain ⟨⟨a_s, c_s, s⟩, e3, i_s, b3⟩ := open_one (opens3 enc W) h3 (one_slice Try.underlying25 (hval 3 25 v3 rfl rfl)) z3
  obtain rfl : v3 = .slice a_s (List.length s) c_s := List.singleton_inj.1 e3
  have k4 := h4
  have z4 := sized_each (j := 4) (t := 40) (d := d4) hsz rfl rfl
  obtain ⟨m, e4, _, b4⟩ := open_one (opens4 enc W) h4 (one_int Try.underlying40 (hval 4 40 v4 rfl rfl)) z4
  obtain rfl : v4 = .int .u16 ((UInt16.toNat m : Nat) : Int) := List.singleton_inj.1 e4
  have k5 := h5
  have z5 := sized_each (j := 5) (t := 5) (d := d5) hsz rfl rfl
  obtain ⟨y, e5, _, b5⟩ := open_one (opens5 enc W) h5 (one_int Try.underlying5 (hval 5 5 v5 rfl rfl)) z5
  obtain rfl : v5 = .int .u8 ((UInt8.toNat y : Nat) : Int) := List.singleton_inj.1 e5
  have hbulk := bulk_at (ds := [d0, d1, d2, d3, d4, d5] ++ []) hbulk0
  simp only [List.append_nil, Rows.uptoBulkAll] at hbulk
  have c2 : List.length a + 1 ≤ Rows.uptoBulk d2 := b2
  have c3 : List.length s + 1 ≤ Rows.uptoBulk d3 := b3
  have hB : (List.length a) + (List.length s) ≤ 1048576 := by omega
  refine (opens_walk k n a_a c_a a a_s c_s s m y W n_k n_n i_a i_s hB).mono fun e W' ⟨he, hev⟩ => ?_
  have bel := hev.below
  subst he
  exact ⟨_, rfl, _, _, _, [], _, [], hW', trodAll_mk1 (shut_bool (by kernel_rfl) _), (trodAll_cons_mk (Below.trod laidOut (by kernel_rfl) (of_decide_eq_true (by kernel_rfl)) k0 bel lt0) (trodAll_cons_mk (Below.trod laidOut (by kernel_rfl) (of_decide_eq_true (by kernel_rfl)) k1 bel lt1) (trodAll_cons_mk (Below.trod laidOut (by kernel_rfl) (of_decide_eq_true (by kernel_rfl)) k2 bel lt2) (trodAll_cons_mk (Below.trod laidOut (by kernel_rfl) (of_decide_eq_true (by kernel_rfl)) k3 bel lt3) (trodAll_cons_mk (Below.trod laidOut (by kernel_rfl) (of_decide_eq_true (by kernel_rfl)) k4 bel lt4) (trodAll_cons_mk (Below.trod laidOut (by kernel_rfl) (of_decide_eq_true (by kernel_rfl)) k5 bel lt5) trodAll_mk0)))))), rfl, bel.frame _, fun h => by cases h⟩
theorem over : Rows.chachaOpensUptoRow.holds Try.pinned (Rows.OpenSpec.upto Rows.chachaOpensSpec) :=
  OpenClaim.holds_of_cond 7 Try.f7 rfl rfl rfl rfl rfl rfl rfl ⟨rfl, rfl, rfl, rfl, rfl⟩ rfl rfl rfl rfl rfl (by kernel_rfl) Try.func7 (by kernel_rfl)
    (of_decide_eq_true (by kernel_rfl)) (by unfold Func.isWrapper; first | (rw [if_pos (by decide +kernel)]; kernel_rfl) | (rw [if_neg (by decide +kernel)]; exact ⟨rfl, rfl⟩))
    (fun os started H enc _ F => lifted os started H enc F)
/-- the given statement -/
theorem proved : Rows.ChachaOpensUptoSaid := over
#print axioms proved
end Go.Proofs.Ytnahplggflhdaaa.chachaOpens
