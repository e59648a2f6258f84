import Derived.Test.YtlnogkmnklfjlaaGreatDoorVr6
import Derived.Test.YtlnogkmnklfjlaaGreatDoorVr1
import Derived.Test.YtlnogkmnklfjlaaGreatDoorCards
import Derived.Test.YtlnogkmnklfjlaaGreatDoorTie
import Derived.Deep.DeepHandedRow
import Derived.Deep.CondSized
/- EdsigVerifies returns true for any key, text, bytes. -/







set_option linter.unusedVariables false
namespace Go.Proofs.YtlnogkmnklfjlaaGreatDoor.edsigVerifies
open Go Go.Dbr Go.ChangeShapes Go.WideShapes Go.ChangeAt Go.RowKit
abbrev z64 : Value := .agg #[.int .u8 0, .int .u8 0, .int .u8 0, .int .u8 0, .int .u8 0, .int .u8 0, .int .u8 0, .int .u8 0, .int .u8 0, .int .u8 0, .int .u8 0, .int .u8 0, .int .u8 0, .int .u8 0, .int .u8 0, .int .u8 0, .int .u8 0, .int .u8 0, .int .u8 0, .int .u8 0, .int .u8 0, .int .u8 0, .int .u8 0, .int .u8 0, .int .u8 0, .int .u8 0, .int .u8 0, .int .u8 0, .int .u8 0, .int .u8 0, .int .u8 0, .int .u8 0, .int .u8 0, .int .u8 0, .int .u8 0, .int .u8 0, .int .u8 0, .int .u8 0, .int .u8 0, .int .u8 0, .int .u8 0, .int .u8 0, .int .u8 0, .int .u8 0, .int .u8 0, .int .u8 0, .int .u8 0, .int .u8 0, .int .u8 0, .int .u8 0, .int .u8 0, .int .u8 0, .int .u8 0, .int .u8 0, .int .u8 0, .int .u8 0, .int .u8 0, .int .u8 0, .int .u8 0, .int .u8 0, .int .u8 0, .int .u8 0, .int .u8 0, .int .u8 0]
theorem own : ownKnob Tryz.prog.godebug = none := by kernel_rfl
theorem laidOut : laidOutB Tryz.prog = true := by kernel_rfl
set_option maxRecDepth 99999 in
theorem opens0 {H : Type} (enc : TypeId × Value → H) (W : World) : Opens enc Tryz.prog W 22 32 (fun l : List UInt8 => bys l) (fun x => (List.length x = 32)) (fun x => 0) :=
  (opens_byarr (by kernel_rfl : Tryz.prog.underlying 22 = some (.array 32 5)) (by kernel_rfl) (by kernel_rfl : Tryz.prog.underlying 5 = some (.int .u8)) (by kernel_rfl))
set_option maxRecDepth 99999 in
theorem opens1 {H : Type} (enc : TypeId × Value → H) (W : World) : Opens enc Tryz.prog W 23 1 (fun s : Sl UInt8 => s.f) (fun x => (InB W [] x.a x.c x.l ∧ List.length x.l ≤ 140737488351232)) (fun x => List.length x.l) :=
  (opens_bysB (by kernel_rfl : Tryz.prog.underlying 23 = some (.slice 5)) (by kernel_rfl) (by kernel_rfl : Tryz.prog.underlying 5 = some (.int .u8)) (by kernel_rfl) (by kernel_rfl))
set_option maxRecDepth 99999 in
theorem opens2 {H : Type} (enc : TypeId × Value → H) (W : World) : Opens enc Tryz.prog W 26 64 (fun l : List UInt8 => bys l) (fun x => (List.length x = 64)) (fun x => 0) :=
  (opens_byarr (by kernel_rfl : Tryz.prog.underlying 26 = some (.array 64 5)) (by kernel_rfl) (by kernel_rfl : Tryz.prog.underlying 5 = some (.int .u8)) (by kernel_rfl))
set_option maxRecDepth 99999 in
theorem opens3 {H : Type} (enc : TypeId × Value → H) (W : World) : Opens enc Tryz.prog W 5 1 (fun n : UInt8 => [bv n]) (fun x => True) (fun x => 0) :=
  (opens_u8 (by kernel_rfl : Tryz.prog.underlying 5 = some (.int .u8)) (by kernel_rfl))
set_option maxRecDepth 99999 in
theorem opens4 {H : Type} (enc : TypeId × Value → H) (W : World) : Opens enc Tryz.prog W 5 1 (fun n : UInt8 => [bv n]) (fun x => True) (fun x => 0) :=
  (opens_u8 (by kernel_rfl : Tryz.prog.underlying 5 = some (.int .u8)) (by kernel_rfl))
noncomputable def laidWorld (os : Os) : World := { World.holding Tryz.prog os ⟨#[], #[], []⟩ with heap := (((World.holding Tryz.prog os ⟨#[], #[], []⟩).heap.modify 0 fun | .cells _ t fz => .cells (u32s Sh.K32).toArray t fz | o => o).modify 1 fun | .cells _ t fz => .cells (u64s Sh.K64).toArray t fz | o => o) }
set_option maxRecDepth 100000 in
theorem laid_met (os : Os) : laidMet Tryz.prog Rows.edsigVerifiesRow.laid ((laidWorld os).forCall (fun _ _ => 0) ⟨#[], #[.agg #[.int .u8 0, .int .u8 0, .int .u8 0, .int .u8 0, .int .u8 0, .int .u8 0, .int .u8 0, .int .u8 0, .int .u8 0, .int .u8 0, .int .u8 0, .int .u8 0, .int .u8 0, .int .u8 0, .int .u8 0, .int .u8 0, .int .u8 0, .int .u8 0, .int .u8 0, .int .u8 0, .int .u8 0, .int .u8 0, .int .u8 0, .int .u8 0, .int .u8 0, .int .u8 0, .int .u8 0, .int .u8 0, .int .u8 0, .int .u8 0, .int .u8 0, .int .u8 0], .slice none 0 0, z64, .int .u8 0, .int .u8 0], []⟩).memory := laidMet_of_run' 12 (by kernel_rfl) (by kernel_rfl)
set_option maxRecDepth 100000 in
theorem readings (os : Os) {H : Type} (enc : TypeId × Value → H) : ∃ places, DataW.whole enc Tryz.prog ((laidWorld os).forCall (fun _ _ => 0) ⟨#[], #[.agg #[.int .u8 0, .int .u8 0, .int .u8 0, .int .u8 0, .int .u8 0, .int .u8 0, .int .u8 0, .int .u8 0, .int .u8 0, .int .u8 0, .int .u8 0, .int .u8 0, .int .u8 0, .int .u8 0, .int .u8 0, .int .u8 0, .int .u8 0, .int .u8 0, .int .u8 0, .int .u8 0, .int .u8 0, .int .u8 0, .int .u8 0, .int .u8 0, .int .u8 0, .int .u8 0, .int .u8 0, .int .u8 0, .int .u8 0, .int .u8 0, .int .u8 0, .int .u8 0], .slice none 0 0, z64, .int .u8 0, .int .u8 0], []⟩).memory Tryz.f4.params.toList Rows.edsigVerifiesSpec.vars false (#[.agg #[.int .u8 0, .int .u8 0, .int .u8 0, .int .u8 0, .int .u8 0, .int .u8 0, .int .u8 0, .int .u8 0, .int .u8 0, .int .u8 0, .int .u8 0, .int .u8 0, .int .u8 0, .int .u8 0, .int .u8 0, .int .u8 0, .int .u8 0, .int .u8 0, .int .u8 0, .int .u8 0, .int .u8 0, .int .u8 0, .int .u8 0, .int .u8 0, .int .u8 0, .int .u8 0, .int .u8 0, .int .u8 0, .int .u8 0, .int .u8 0, .int .u8 0, .int .u8 0], .slice none 0 0, z64, .int .u8 0, .int .u8 0] : Array Value).toList 12 = some ([.agg [.lit (.int .u8 0), .lit (.int .u8 0), .lit (.int .u8 0), .lit (.int .u8 0), .lit (.int .u8 0), .lit (.int .u8 0), .lit (.int .u8 0), .lit (.int .u8 0), .lit (.int .u8 0), .lit (.int .u8 0), .lit (.int .u8 0), .lit (.int .u8 0), .lit (.int .u8 0), .lit (.int .u8 0), .lit (.int .u8 0), .lit (.int .u8 0), .lit (.int .u8 0), .lit (.int .u8 0), .lit (.int .u8 0), .lit (.int .u8 0), .lit (.int .u8 0), .lit (.int .u8 0), .lit (.int .u8 0), .lit (.int .u8 0), .lit (.int .u8 0), .lit (.int .u8 0), .lit (.int .u8 0), .lit (.int .u8 0), .lit (.int .u8 0), .lit (.int .u8 0), .lit (.int .u8 0), .lit (.int .u8 0)], .nil, .agg [.lit (.int .u8 0), .lit (.int .u8 0), .lit (.int .u8 0), .lit (.int .u8 0), .lit (.int .u8 0), .lit (.int .u8 0), .lit (.int .u8 0), .lit (.int .u8 0), .lit (.int .u8 0), .lit (.int .u8 0), .lit (.int .u8 0), .lit (.int .u8 0), .lit (.int .u8 0), .lit (.int .u8 0), .lit (.int .u8 0), .lit (.int .u8 0), .lit (.int .u8 0), .lit (.int .u8 0), .lit (.int .u8 0), .lit (.int .u8 0), .lit (.int .u8 0), .lit (.int .u8 0), .lit (.int .u8 0), .lit (.int .u8 0), .lit (.int .u8 0), .lit (.int .u8 0), .lit (.int .u8 0), .lit (.int .u8 0), .lit (.int .u8 0), .lit (.int .u8 0), .lit (.int .u8 0), .lit (.int .u8 0), .lit (.int .u8 0), .lit (.int .u8 0), .lit (.int .u8 0), .lit (.int .u8 0), .lit (.int .u8 0), .lit (.int .u8 0), .lit (.int .u8 0), .lit (.int .u8 0), .lit (.int .u8 0), .lit (.int .u8 0), .lit (.int .u8 0), .lit (.int .u8 0), .lit (.int .u8 0), .lit (.int .u8 0), .lit (.int .u8 0), .lit (.int .u8 0), .lit (.int .u8 0), .lit (.int .u8 0), .lit (.int .u8 0), .lit (.int .u8 0), .lit (.int .u8 0), .lit (.int .u8 0), .lit (.int .u8 0), .lit (.int .u8 0), .lit (.int .u8 0), .lit (.int .u8 0), .lit (.int .u8 0), .lit (.int .u8 0), .lit (.int .u8 0), .lit (.int .u8 0), .lit (.int .u8 0), .lit (.int .u8 0)], .lit (.int .u8 0), .lit (.int .u8 0)], [], places) := ⟨[], by kernel_rfl⟩
set_option maxRecDepth 100000 in
theorem lifted (os : Os) (started : os.Started) (H : Type) (enc : TypeId × Value → H) (F : Stop.Interp) :
    ReturnsInHanded {} Tryz.checked os 4 .any ((OpenSpec.ofChange Rows.edsigVerifiesSpec).preRow enc Tryz.prog Tryz.f4 Rows.edsigVerifiesRow.domain false Rows.edsigVerifiesRow.laid) (((OpenSpec.ofChange Rows.edsigVerifiesSpec).at F).post enc Tryz.prog Tryz.f4 false true false false) := by
  obtain ⟨places, hx⟩ := readings os enc
  refine returnsInHanded_of_row (C := Tryz.checked) (s := (OpenSpec.ofChange Rows.edsigVerifiesSpec)) own started (by kernel_rfl) Tryz.func4
    (witness_row_at (enc := enc) (C := Tryz.checked) false (laidWorld os) #[.agg #[.int .u8 0, .int .u8 0, .int .u8 0, .int .u8 0, .int .u8 0, .int .u8 0, .int .u8 0, .int .u8 0, .int .u8 0, .int .u8 0, .int .u8 0, .int .u8 0, .int .u8 0, .int .u8 0, .int .u8 0, .int .u8 0, .int .u8 0, .int .u8 0, .int .u8 0, .int .u8 0, .int .u8 0, .int .u8 0, .int .u8 0, .int .u8 0, .int .u8 0, .int .u8 0, .int .u8 0, .int .u8 0, .int .u8 0, .int .u8 0, .int .u8 0, .int .u8 0], .slice none 0 0, z64, .int .u8 0, .int .u8 0] rfl (by kernel_rfl) (by kernel_rfl) (by kernel_rfl)
      (OpenSpec.preRow_of_cond 12 hx (by kernel_rfl) (fun k hk => by cases hk) (by kernel_rfl) (laid_met os))) ?_
  intro W base args ds gs before hval0 hW _ hcond hsz0 hL _ _
  have hval : ∀ (j : Nat) t v, Tryz.f4.params[j]? = some t → args[j]? = some v → Value.okWide Tryz.prog W .any base t v := hval0
  have hW' := hW
  obtain ⟨p, q, hA0, hV, rfl, _, _⟩ := hW
  have hA : DataW.TrodAll enc Tryz.prog W 0 (fun _ => true) true Tryz.f4.params.toList args.toList ds p := hA0
  have hsz : (DataW.weightsEach Tryz.prog (Tryz.f4.params.toList ++ []) (ds ++ gs)).all (· ≤ reachBytes) = true := hsz0
  rw [Tryz.params4] at hA hval hsz
  obtain ⟨v0, vs0, d0, ds0, p0, q0, hargs, rfl, rfl, h0, r0⟩ := trodAll_cons hA
  obtain ⟨v1, vs1, d1, ds1, p1, q1, rfl, rfl, rfl, h1, r1⟩ := trodAll_cons r0
  obtain ⟨v2, vs2, d2, ds2, p2, q2, rfl, rfl, rfl, h2, r2⟩ := trodAll_cons r1
  obtain ⟨v3, vs3, d3, ds3, p3, q3, rfl, rfl, rfl, h3, r3⟩ := trodAll_cons r2
  obtain ⟨v4, vs4, d4, ds4, p4, q4, rfl, rfl, rfl, h4, r4⟩ := trodAll_cons r3
  obtain ⟨rfl, rfl, rfl⟩ := trodAll_nil r4
  obtain rfl : args = #[v0, v1, v2, v3, v4] := by cases args; simp_all
  obtain ⟨rfl, rfl⟩ := trodVars_none hV
  simp only [List.append_nil] at hsz
  have lt0 : ∀ x ∈ p0, x.block < W.heap.size := by obtain ⟨m, hm⟩ := h0; exact DataW.trod_lt m _ _ _ hm
  have lt1 : ∀ x ∈ p1, x.block < W.heap.size := by obtain ⟨m, hm⟩ := h1; exact DataW.trod_lt m _ _ _ hm
  have lt2 : ∀ x ∈ p2, x.block < W.heap.size := by obtain ⟨m, hm⟩ := h2; exact DataW.trod_lt m _ _ _ hm
  have lt3 : ∀ x ∈ p3, x.block < W.heap.size := by obtain ⟨m, hm⟩ := h3; exact DataW.trod_lt m _ _ _ hm
  have lt4 : ∀ x ∈ p4, x.block < W.heap.size := by obtain ⟨m, hm⟩ := h4; exact DataW.trod_lt m _ _ _ hm
  have k0 := h0
  have z0 := sized_each (j := 0) (t := 22) (d := d0) hsz rfl rfl
  obtain ⟨pb, e0, n_pb, b0⟩ := open_many (opens0 enc W) h0 (okWide_agg (.inr ⟨_, _, Tryz.underlying22⟩) (hval 0 22 v0 rfl rfl)) z0
  obtain rfl : v0 = .agg (List.toArray (bys pb)) := (by first | exact e0 | exact e0.trans (by simp only [List.append_nil]))
  have k1 := h1
  have z1 := sized_each (j := 1) (t := 23) (d := d1) hsz rfl rfl
  obtain ⟨⟨a_m, c_m, m⟩, e1, ⟨i_m, s_m⟩, b1⟩ := open_one (opens1 enc W) h1 (one_slice Tryz.underlying23 (hval 1 23 v1 rfl rfl)) z1
  obtain rfl : v1 = .slice a_m (List.length m) c_m := List.singleton_inj.1 e1
  have k2 := h2
  have z2 := sized_each (j := 2) (t := 26) (d := d2) hsz rfl rfl
  obtain ⟨sg, e2, n_sg, b2⟩ := open_many (opens2 enc W) h2 (okWide_agg (.inr ⟨_, _, Tryz.underlying26⟩) (hval 2 26 v2 rfl rfl)) z2
  obtain rfl : v2 = .agg (List.toArray (bys sg)) := (by first | exact e2 | exact e2.trans (by simp only [List.append_nil]))
  have k3 := h3
  have z3 := sized_each (j := 3) (t := 5) (d := d3) hsz rfl rfl
  obtain ⟨a, e3, _, b3⟩ := open_one (opens3 enc W) h3 (one_int Tryz.underlying5 (hval 3 5 v3 rfl rfl)) z3
  obtain rfl : v3 = .int .u8 ((UInt8.toNat a : Nat) : Int) := List.singleton_inj.1 e3
  have k4 := h4
  have z4 := sized_each (j := 4) (t := 5) (d := d4) hsz rfl rfl
  obtain ⟨b, e4, _, b4⟩ := open_one (opens4 enc W) h4 (one_int Tryz.underlying5 (hval 4 5 v4 rfl rfl)) z4
  obtain rfl : v4 = .int .u8 ((UInt8.toNat b : Nat) : Int) := List.singleton_inj.1 e4
  refine (verifies_walk pb a_m c_m m sg a b W n_pb i_m s_m n_sg (in32_laid hL) (in64_laid hL)).mono fun e W' ⟨he, hev⟩ => ?_
  have bel := hev.below
  subst he
  exact ⟨_, rfl, _, _, _, [], _, [], hW', trodAll_mk1 (shut_bool (by kernel_rfl) _), (trodAll_cons_mk (Below.trod laidOut (by kernel_rfl) (of_decide_eq_true (by kernel_rfl)) k0 bel lt0) (trodAll_cons_mk (Below.trod laidOut (by kernel_rfl) (of_decide_eq_true (by kernel_rfl)) k1 bel lt1) (trodAll_cons_mk (Below.trod laidOut (by kernel_rfl) (of_decide_eq_true (by kernel_rfl)) k2 bel lt2) (trodAll_cons_mk (Below.trod laidOut (by kernel_rfl) (of_decide_eq_true (by kernel_rfl)) k3 bel lt3) (trodAll_cons_mk (Below.trod laidOut (by kernel_rfl) (of_decide_eq_true (by kernel_rfl)) k4 bel lt4) trodAll_mk0))))), rfl, bel.frame _, fun h => by cases h⟩
theorem over : Rows.edsigVerifiesRow.holds Tryz.pinned (OpenSpec.ofChange Rows.edsigVerifiesSpec) :=
  OpenClaim.holds_of_cond 4 Tryz.f4 rfl rfl rfl rfl rfl rfl rfl ⟨rfl, rfl, rfl, rfl, rfl⟩ rfl rfl rfl rfl rfl (by kernel_rfl) Tryz.func4 (by kernel_rfl)
    (of_decide_eq_true (by kernel_rfl)) (by unfold Func.isWrapper; first | (rw [if_pos (by decide +kernel)]; kernel_rfl) | (rw [if_neg (by decide +kernel)]; exact ⟨rfl, rfl⟩))
    (fun os started H enc _ F => by rw [OpenClaim.pre_eq_preRow]; exact lifted os started H enc F)
theorem plain (f : FuncId) (fn : Func) (hf : Tryz.pinned.checked.prog.funcNamed "drawbridge/drawbridgelaw12.EdsigVerifies" = some f) (hfn : Tryz.pinned.checked.prog.funcs[f]? = some fn) :
    false = Tryz.pinned.checked.prog.looks [] ∧ ∀ (j : Nat) t, fn.params[j]? = some t → Tryz.pinned.checked.prog.wantsStandIn t = false := by
  obtain rfl : f = 4 := Option.some.inj ((show Tryz.prog.funcNamed "drawbridge/drawbridgelaw12.EdsigVerifies" = some 4 by kernel_rfl).symm.trans hf) |>.symm
  obtain rfl : fn = Tryz.f4 := (Option.some.inj (Tryz.func4.symm.trans hfn)).symm
  refine ⟨by kernel_rfl, fun j t ht => ?_⟩
  rw [Tryz.params4] at ht
  have hm : t ∈ (#[22, 23, 26, 5, 5] : Array TypeId) := Array.mem_of_getElem? ht
  simp only [List.mem_toArray, List.mem_cons, List.not_mem_nil, or_false] at hm
  rcases hm with rfl | rfl | rfl | rfl | rfl
  · exact (show Tryz.prog.wantsStandIn 22 = false by kernel_rfl)
  · exact (show Tryz.prog.wantsStandIn 23 = false by kernel_rfl)
  · exact (show Tryz.prog.wantsStandIn 26 = false by kernel_rfl)
  · exact (show Tryz.prog.wantsStandIn 5 = false by kernel_rfl)
  · exact (show Tryz.prog.wantsStandIn 5 = false by kernel_rfl)
/-- the given statement: the card -/
theorem proved : Rows.EdsigVerifiesCardSaid :=
  Claim7.holds_tied_plain_at .later [] _ _ _ _ over (fun _ h => by cases h) (by kernel_rfl) (fun _ h => by cases h) edsigVerifies_row_tie rfl ⟨rfl, rfl⟩ (by kernel_rfl) rfl plain (by kernel_rfl)
#print axioms proved
end Go.Proofs.YtlnogkmnklfjlaaGreatDoor.edsigVerifies
