/- ShaPieces returns true for every function and pieces. -/
import Derived.Test.YtbpihljkkkeijaaDoorS20
import Derived.Test.YtbpihljkkkeijaaDoorShape
import Derived.Test.YtbpihljkkkeijaaDoorCards
import Derived.Test.YtbpihljkkkeijaaDoorTie
import Derived.Deep.DeepHandedRow
import Derived.Deep.CondSized
set_option linter.unusedVariables false
namespace Go.Proofs.YtbpihljkkkeijaaDoor.shaPieces
open Go Go.Dbr Go.ChangeShapes Go.WideShapes Go.ChangeAt Go.RowKit
theorem own : ownKnob Tryd.prog.godebug = none := by kernel_rfl
theorem laidOut : laidOutB Tryd.prog = true := by kernel_rfl
theorem opens0 {H : Type} (enc : TypeId × Value → H) (W : World) : Opens enc Tryd.prog W 22 1 (fun n : Int => [.int .i64 n]) (fun x => (-9223372036854775808 ≤ x ∧ x ≤ 9223372036854775807)) (fun x => 0) :=
  (opens_i64 (by kernel_rfl : Tryd.prog.underlying 22 = some (.int .i64)) (by kernel_rfl))
theorem opens1 {H : Type} (enc : TypeId × Value → H) (W : World) : Opens enc Tryd.prog W 30 1 (fun s : Sl (Sl UInt8) => s.f) (fun x => InS (fun s : Sl UInt8 => s.f) 24 (fun x : Sl UInt8 => InB W [] x.a x.c x.l) W [] x.a x.c x.l) (fun x => (List.map (fun x => List.length x.l + 1) x.l).sum) :=
  (opens_slice (by kernel_rfl : Tryd.prog.underlying 30 = some (.slice 23)) (by kernel_rfl) (by kernel_rfl) (opens_bys (by kernel_rfl : Tryd.prog.underlying 23 = some (.slice 5)) (by kernel_rfl) (by kernel_rfl : Tryd.prog.underlying 5 = some (.int .u8)) (by kernel_rfl) (by kernel_rfl)))
theorem opens2 {H : Type} (enc : TypeId × Value → H) (W : World) : Opens enc Tryd.prog W 3 1 (fun n : Int => [.int .i64 n]) (fun x => (-9223372036854775808 ≤ x ∧ x ≤ 9223372036854775807)) (fun x => 0) :=
  (opens_i64 (by kernel_rfl : Tryd.prog.underlying 3 = some (.int .i64)) (by kernel_rfl))
noncomputable def laidWorld (os : Os) : World := { World.holding Tryd.prog os ⟨#[], #[], []⟩ with heap := (((World.holding Tryd.prog os ⟨#[], #[], []⟩).heap.modify 0 fun | .cells _ t fz => .cells (u32s K32).toArray t fz | o => o).modify 1 fun | .cells _ t fz => .cells (u64s K64).toArray t fz | o => o) }
set_option maxRecDepth 100000 in
theorem laid_met (os : Os) : laidMet Tryd.prog Rows.shaPiecesUptoRow.laid ((laidWorld os).forCall (fun _ _ => 0) ⟨#[], #[.int .i64 0, .slice none 0 0, .int .i64 0], []⟩).memory := laidMet_of_run' 12 (by kernel_rfl) (by kernel_rfl)
set_option maxRecDepth 100000 in
theorem readings (os : Os) {H : Type} (enc : TypeId × Value → H) : ∃ places, DataW.whole enc Tryd.prog ((laidWorld os).forCall (fun _ _ => 0) ⟨#[], #[.int .i64 0, .slice none 0 0, .int .i64 0], []⟩).memory Tryd.f5.params.toList Rows.shaPiecesSpec.vars false (#[.int .i64 0, .slice none 0 0, .int .i64 0] : Array Value).toList 12 = some ([.lit (.int .i64 0), .nil, .lit (.int .i64 0)], [], places) := ⟨[], by kernel_rfl⟩
set_option maxRecDepth 100000 in
theorem lifted (os : Os) (started : os.Started) (H : Type) (enc : TypeId × Value → H) (F : Stop.Interp) :
    ReturnsInHanded {} Tryd.checked os 5 .any ((Rows.OpenSpec.upto Rows.shaPiecesSpec).preRow enc Tryd.prog Tryd.f5 Rows.shaPiecesUptoRow.domain false Rows.shaPiecesUptoRow.laid) (((Rows.OpenSpec.upto Rows.shaPiecesSpec).at F).post enc Tryd.prog Tryd.f5 false true false false) := by
  obtain ⟨places, hx⟩ := readings os enc
  refine returnsInHanded_of_row (C := Tryd.checked) (s := (Rows.OpenSpec.upto Rows.shaPiecesSpec)) own started (by kernel_rfl) Tryd.func5
    (witness_row_at (enc := enc) (C := Tryd.checked) false (laidWorld os) #[.int .i64 0, .slice none 0 0, .int .i64 0] rfl (by kernel_rfl) (by kernel_rfl) (by kernel_rfl)
      (OpenSpec.preRow_of_cond 12 hx (by kernel_rfl) (fun k hk => by cases hk; kernel_rfl) (by kernel_rfl) (laid_met os))) ?_
  intro W base args ds gs before hval0 hW _ hcond hsz0 hL _ _
  have hbulk0 := hcond _ rfl
  have hval : ∀ (j : Nat) t v, Tryd.f5.params[j]? = some t → args[j]? = some v → Value.okWide Tryd.prog W .any base t v := hval0
  have hW' := hW
  obtain ⟨p, q, hA0, hV, rfl, _, _⟩ := hW
  have hA : DataW.TrodAll enc Tryd.prog W 0 (fun _ => true) true Tryd.f5.params.toList args.toList ds p := hA0
  have hsz : (DataW.weightsEach Tryd.prog (Tryd.f5.params.toList ++ []) (ds ++ gs)).all (· ≤ reachBytes) = true := hsz0
  rw [Tryd.params5] at hA hval hsz
  obtain ⟨v0, vs0, d0, ds0, p0, q0, hargs, rfl, rfl, h0, r0⟩ := trodAll_cons hA
  obtain ⟨v1, vs1, d1, ds1, p1, q1, rfl, rfl, rfl, h1, r1⟩ := trodAll_cons r0
  obtain ⟨v2, vs2, d2, ds2, p2, q2, rfl, rfl, rfl, h2, r2⟩ := trodAll_cons r1
  obtain ⟨rfl, rfl, rfl⟩ := trodAll_nil r2
  obtain rfl : args = #[v0, v1, v2] := by cases args; simp_all
  obtain ⟨rfl, rfl⟩ := trodVars_none hV
  simp only [List.append_nil] at hsz
  have lt0 : ∀ x ∈ p0, x.block < W.heap.size := by obtain ⟨m, hm⟩ := h0; exact DataW.trod_lt m _ _ _ hm
  have lt1 : ∀ x ∈ p1, x.block < W.heap.size := by obtain ⟨m, hm⟩ := h1; exact DataW.trod_lt m _ _ _ hm
  have lt2 : ∀ x ∈ p2, x.block < W.heap.size := by obtain ⟨m, hm⟩ := h2; exact DataW.trod_lt m _ _ _ hm
  have k0 := h0
  have z0 := sized_each (j := 0) (t := 22) (d := d0) hsz rfl rfl
  obtain ⟨h, e0, b_h, b0⟩ := open_one (opens0 enc W) h0 (one_int Tryd.underlying22 (hval 0 22 v0 rfl rfl)) z0
  obtain rfl : v0 = .int .i64 h := List.singleton_inj.1 e0
  have k1 := h1
  have z1 := sized_each (j := 1) (t := 30) (d := d1) hsz rfl rfl
  obtain ⟨⟨a_g, c_g, g⟩, e1, i_g, b1⟩ := open_one (opens1 enc W) h1 (one_slice Tryd.underlying30 (hval 1 30 v1 rfl rfl)) z1
  obtain rfl : v1 = .slice a_g (List.length g) c_g := List.singleton_inj.1 e1
  have k2 := h2
  have z2 := sized_each (j := 2) (t := 3) (d := d2) hsz rfl rfl
  obtain ⟨c, e2, b_c, b2⟩ := open_one (opens2 enc W) h2 (one_int Tryd.underlying3 (hval 2 3 v2 rfl rfl)) z2
  obtain rfl : v2 = .int .i64 c := List.singleton_inj.1 e2
  have hbulk := bulk_at (ds := [d0, d1, d2] ++ []) hbulk0
  simp only [List.append_nil, Rows.uptoBulkAll] at hbulk
  have c1 : (List.map (fun x => List.length x.l + 1) g).sum + 1 ≤ Rows.uptoBulk d1 := b1
  have hB : ((List.map (fun x => List.length x.l + 1) g).sum) ≤ 1048576 := by omega
  refine (pieces_walk h a_g c_g g c W b_h i_g b_c hB (in32_laid hL) (in64_laid hL)).mono fun e W' ⟨he, hev⟩ => ?_
  have bel := hev.below
  subst he
  exact ⟨_, rfl, _, _, _, [], _, [], hW', trodAll_mk1 (shut_bool (by kernel_rfl) _), (trodAll_cons_mk (Below.trod laidOut (by kernel_rfl) (of_decide_eq_true (by kernel_rfl)) k0 bel lt0) (trodAll_cons_mk (Below.trod laidOut (by kernel_rfl) (of_decide_eq_true (by kernel_rfl)) k1 bel lt1) (trodAll_cons_mk (Below.trod laidOut (by kernel_rfl) (of_decide_eq_true (by kernel_rfl)) k2 bel lt2) trodAll_mk0))), rfl, bel.frame _, fun h => by cases h⟩
theorem over : Rows.shaPiecesUptoRow.holds Tryd.pinned (Rows.OpenSpec.upto Rows.shaPiecesSpec) :=
  OpenClaim.holds_of_cond 5 Tryd.f5 rfl rfl rfl rfl rfl rfl rfl ⟨rfl, rfl, rfl, rfl, rfl⟩ rfl rfl rfl rfl rfl (by kernel_rfl) Tryd.func5 (by kernel_rfl)
    (of_decide_eq_true (by kernel_rfl)) (by unfold Func.isWrapper; first | (rw [if_pos (by decide +kernel)]; kernel_rfl) | (rw [if_neg (by decide +kernel)]; exact ⟨rfl, rfl⟩))
    (fun os started H enc _ F => by rw [OpenClaim.pre_eq_preRow]; exact lifted os started H enc F)
theorem plain (f : FuncId) (fn : Func) (hf : Tryd.pinned.checked.prog.funcNamed "drawbridge/drawbridgelaw05.ShaPieces" = some f) (hfn : Tryd.pinned.checked.prog.funcs[f]? = some fn) :
    false = Tryd.pinned.checked.prog.looks [] ∧ ∀ (j : Nat) t, fn.params[j]? = some t → Tryd.pinned.checked.prog.wantsStandIn t = false := by
  obtain rfl : f = 5 := Option.some.inj ((show Tryd.prog.funcNamed "drawbridge/drawbridgelaw05.ShaPieces" = some 5 by kernel_rfl).symm.trans hf) |>.symm
  obtain rfl : fn = Tryd.f5 := (Option.some.inj (Tryd.func5.symm.trans hfn)).symm
  refine ⟨by kernel_rfl, fun j t ht => ?_⟩
  rw [Tryd.params5] at ht
  have hm : t ∈ (#[22, 30, 3] : Array TypeId) := Array.mem_of_getElem? ht
  simp only [List.mem_toArray, List.mem_cons, List.not_mem_nil, or_false] at hm
  rcases hm with rfl | rfl | rfl
  · exact (show Tryd.prog.wantsStandIn 22 = false by kernel_rfl)
  · exact (show Tryd.prog.wantsStandIn 30 = false by kernel_rfl)
  · exact (show Tryd.prog.wantsStandIn 3 = false by kernel_rfl)
/-- the given statement: the card -/
theorem proved : Rows.ShaPiecesUptoCardSaid :=
  Claim7.holds_tied_plain_at .later [] _ _ _ _ over (fun _ h => by cases h) (by kernel_rfl) (fun _ h => by cases h) shaPiecesUpto_row_tie rfl ⟨rfl, rfl⟩ (by kernel_rfl) rfl plain (by kernel_rfl)
#print axioms proved
end Go.Proofs.YtbpihljkkkeijaaDoor.shaPieces
