import Derived.Test.YtfcfgbejpcmmkaaDoorBk10
import Derived.Test.YtfcfgbejpcmmkaaDoorBk2
import Derived.Test.YtfcfgbejpcmmkaaDoorCards
import Derived.Test.YtfcfgbejpcmmkaaDoorTie
import Derived.Deep.DeepHandedRow
import Derived.Deep.DeepLaidRun
import Derived.Lib.LaidU8
import Derived.Deep.CondSized
/- LogsBack returns true for every line, text and cut. -/









set_option linter.unusedVariables false
namespace Go.Proofs.YtfcfgbejpcmmkaaDoor.logsBack
open Go Go.Dbr Go.ChangeShapes Go.WideShapes Go.ChangeAt Go.RowKit
theorem own : ownKnob Tryd.prog.godebug = none := by kernel_rfl
theorem laidOut : laidOutB Tryd.prog = true := by kernel_rfl
set_option maxRecDepth 99999 in
theorem opens0 {H : Type} (enc : TypeId × Value → H) (W : World) : Opens enc Tryd.prog W 25 3 (fun p : (UInt64) × (List UInt8) × (Sl ((List UInt8) × (Bool) × (UInt64) × (List UInt8) × Unit)) × Unit => (fun n : UInt64 => [uv64 n]) p.1 ++ (fun p : (List UInt8) × (Sl ((List UInt8) × (Bool) × (UInt64) × (List UInt8) × Unit)) × Unit => (fun l : List UInt8 => [.string (bstr l)]) p.1 ++ (fun p : (Sl ((List UInt8) × (Bool) × (UInt64) × (List UInt8) × Unit)) × Unit => (fun s : Sl ((List UInt8) × (Bool) × (UInt64) × (List UInt8) × Unit) => s.f) p.1 ++ (fun _ : Unit => []) p.2) p.2) p.2) (fun x => (True ∧ ((List.length x.2.1 ≤ 140737488351232) ∧ (InS (fun p : (List UInt8) × (Bool) × (UInt64) × (List UInt8) × Unit => (fun l : List UInt8 => [.string (bstr l)]) p.1 ++ (fun p : (Bool) × (UInt64) × (List UInt8) × Unit => (fun b : Bool => [.bool b]) p.1 ++ (fun p : (UInt64) × (List UInt8) × Unit => (fun n : UInt64 => [uv64 n]) p.1 ++ (fun p : (List UInt8) × Unit => (fun l : List UInt8 => [.string (bstr l)]) p.1 ++ (fun _ : Unit => []) p.2) p.2) p.2) p.2) 48 (fun x : (List UInt8) × (Bool) × (UInt64) × (List UInt8) × Unit => ((List.length x.1 ≤ 140737488351232) ∧ (True ∧ (True ∧ ((List.length x.2.2.2.1 ≤ 140737488351232) ∧ (True)))))) W [] x.2.2.1.a x.2.2.1.c x.2.2.1.l ∧ (True))))) (fun x => (0 + (List.length x.2.1 + ((List.map (fun x => (List.length x.1 + (0 + (0 + (List.length x.2.2.2.1 + (0))))) + 1) x.2.2.1.l).sum + (0))))) :=
  (opens_struct Tryd.underlying25 (by kernel_rfl) (opensF_cons (opens_u64 (by kernel_rfl : Tryd.prog.underlying 22 = some (.int .u64)) (by kernel_rfl)) rfl (opensF_cons (opens_string (by kernel_rfl : Tryd.prog.underlying 9 = some .string) (by kernel_rfl)) rfl (opensF_cons (opens_slice (by kernel_rfl : Tryd.prog.underlying 23 = some (.slice 35)) (by kernel_rfl) (by kernel_rfl) (opens_struct Tryd.underlying35 (by kernel_rfl) (opensF_cons (opens_string (by kernel_rfl : Tryd.prog.underlying 9 = some .string) (by kernel_rfl)) rfl (opensF_cons (opens_bool (by kernel_rfl : Tryd.prog.underlying 4 = some .bool) (by kernel_rfl)) rfl (opensF_cons (opens_u64 (by kernel_rfl : Tryd.prog.underlying 22 = some (.int .u64)) (by kernel_rfl)) rfl (opensF_cons (opens_string (by kernel_rfl : Tryd.prog.underlying 9 = some .string) (by kernel_rfl)) rfl opensF_nil)))))) rfl opensF_nil))))
set_option maxRecDepth 99999 in
theorem opens1 {H : Type} (enc : TypeId × Value → H) (W : World) : Opens enc Tryd.prog W 9 1 (fun l : List UInt8 => [.string (bstr l)]) (fun x => (List.length x ≤ 140737488351232)) (fun x => List.length x) :=
  (opens_string (by kernel_rfl : Tryd.prog.underlying 9 = some .string) (by kernel_rfl))
set_option maxRecDepth 99999 in
theorem opens2 {H : Type} (enc : TypeId × Value → H) (W : World) : Opens enc Tryd.prog W 26 1 (fun n : UInt16 => [uv16 n]) (fun x => True) (fun x => 0) :=
  (opens_u16 (by kernel_rfl : Tryd.prog.underlying 26 = some (.int .u16)) (by kernel_rfl))
noncomputable def lowB : Nat := (World.holding Tryd.prog default ⟨#[], #[], []⟩).heap.size
noncomputable def laidWorld (os : Os) : World := { World.holding Tryd.prog os ⟨#[.cells #[.string (bstr [118, 97, 108, 117, 101, 32, 111, 117, 116, 32, 111, 102, 32, 114, 97, 110, 103, 101])] 162, .cells #[.string (bstr [105, 110, 118, 97, 108, 105, 100, 32, 115, 121, 110, 116, 97, 120])] 162], #[], []⟩ with heap := ((((((((World.holding Tryd.prog os ⟨#[.cells #[.string (bstr [118, 97, 108, 117, 101, 32, 111, 117, 116, 32, 111, 102, 32, 114, 97, 110, 103, 101])] 162, .cells #[.string (bstr [105, 110, 118, 97, 108, 105, 100, 32, 115, 121, 110, 116, 97, 120])] 162], #[], []⟩).heap.modify 3 fun | .cells _ t fz => .cells (bys [0, 1, 28, 2, 29, 14, 24, 3, 30, 22, 20, 15, 25, 17, 4, 8, 31, 27, 13, 23, 21, 19, 16, 7, 26, 12, 18, 6, 11, 5, 10, 9]).toArray t fz | o => o).modify 4 fun | .cells _ t fz => .cells (bys [0, 1, 56, 2, 57, 49, 28, 3, 61, 58, 42, 50, 38, 29, 17, 4, 62, 47, 59, 36, 45, 43, 51, 22, 53, 39, 33, 30, 24, 18, 12, 5, 63, 55, 48, 27, 60, 41, 37, 16, 46, 35, 44, 21, 52, 32, 23, 11, 54, 26, 40, 15, 34, 20, 31, 10, 25, 14, 19, 9, 13, 8, 7, 6]).toArray t fz | o => o).modify 0 fun | .cells _ t fz => .cells (u64s [1, 10, 100, 1000, 10000, 100000, 1000000, 10000000, 100000000, 1000000000, 10000000000, 100000000000, 1000000000000, 10000000000000, 100000000000000, 1000000000000000, 10000000000000000, 100000000000000000, 1000000000000000000, 10000000000000000000]).toArray t fz | o => o).modify 6 fun | .cells _ t fz => .cells (((List.range 16).flatMap fun i => [Value.int .u8 (Lib.accLo i), Value.int .u8 (Lib.accHi i)])).toArray t fz | o => o).modify 2 fun | .cells _ t fz => .cells ([.iface 160 (.pointer (some ⟨lowB + 0, 0, none⟩))]).toArray t fz | o => o).modify 1 fun | .cells _ t fz => .cells ([.iface 160 (.pointer (some ⟨lowB + 1, 0, none⟩))]).toArray t fz | o => o).modify 5 fun | .cells _ t fz => .cells ((Lib.firstTab.map fun z => Value.int .u8 z)).toArray t fz | o => o) }
set_option maxRecDepth 100000 in
theorem laid_met (os : Os) : laidMet Tryd.prog Rows.logsBackRow.laid ((laidWorld os).forCall (fun _ _ => 0) ⟨#[], #[.agg #[.int .u64 0, .string (bstr []), .slice none 0 0], .string (bstr []), .int .u16 0], []⟩).memory := laidMet_of_run3 12 (by kernel_rfl) (by kernel_rfl) (by kernel_rfl)
set_option maxRecDepth 100000 in
theorem readings (os : Os) {H : Type} (enc : TypeId × Value → H) : ∃ places, DataW.whole enc Tryd.prog ((laidWorld os).forCall (fun _ _ => 0) ⟨#[], #[.agg #[.int .u64 0, .string (bstr []), .slice none 0 0], .string (bstr []), .int .u16 0], []⟩).memory Tryd.f3.params.toList Rows.logsBackSpec.vars false (#[.agg #[.int .u64 0, .string (bstr []), .slice none 0 0], .string (bstr []), .int .u16 0] : Array Value).toList 12 = some ([.agg [.lit (.int .u64 0), .lit (.string []), .nil], .lit (.string []), .lit (.int .u16 0)], [], places) := ⟨[], by kernel_rfl⟩
set_option maxRecDepth 100000 in
theorem lifted (os : Os) (started : os.Started) (H : Type) (enc : TypeId × Value → H) (F : Stop.Interp) :
    ReturnsInHanded {} Tryd.checked os 3 .any ((OpenSpec.ofChange Rows.logsBackSpec).preRow enc Tryd.prog Tryd.f3 Rows.logsBackRow.domain false Rows.logsBackRow.laid) (((OpenSpec.ofChange Rows.logsBackSpec).at F).post enc Tryd.prog Tryd.f3 false true false false) := by
  obtain ⟨places, hx⟩ := readings os enc
  refine returnsInHanded_of_row (C := Tryd.checked) (s := (OpenSpec.ofChange Rows.logsBackSpec)) own started (by kernel_rfl) Tryd.func3
    (witness_row_at (enc := enc) (C := Tryd.checked) false (laidWorld os) #[.agg #[.int .u64 0, .string (bstr []), .slice none 0 0], .string (bstr []), .int .u16 0] rfl (by kernel_rfl) (by kernel_rfl) (by kernel_rfl)
      (OpenSpec.preRow_of_cond 12 hx (by kernel_rfl) (fun k hk => by cases hk) (by kernel_rfl) (laid_met os))) ?_
  intro W base args ds gs before hval0 hW _ hcond hsz0 hL _ _
  have hval : ∀ (j : Nat) t v, Tryd.f3.params[j]? = some t → args[j]? = some v → Value.okWide Tryd.prog W .any base t v := hval0
  have hW' := hW
  obtain ⟨p, q, hA0, hV, rfl, _, _⟩ := hW
  have hA : DataW.TrodAll enc Tryd.prog W 0 (fun _ => true) true Tryd.f3.params.toList args.toList ds p := hA0
  have hsz : (DataW.weightsEach Tryd.prog (Tryd.f3.params.toList ++ []) (ds ++ gs)).all (· ≤ reachBytes) = true := hsz0
  rw [Tryd.params3] at hA hval hsz
  obtain ⟨v0, vs0, d0, ds0, p0, q0, hargs, rfl, rfl, h0, r0⟩ := trodAll_cons hA
  obtain ⟨v1, vs1, d1, ds1, p1, q1, rfl, rfl, rfl, h1, r1⟩ := trodAll_cons r0
  obtain ⟨v2, vs2, d2, ds2, p2, q2, rfl, rfl, rfl, h2, r2⟩ := trodAll_cons r1
  obtain ⟨rfl, rfl, rfl⟩ := trodAll_nil r2
  obtain rfl : args = #[v0, v1, v2] := by cases args; simp_all
  obtain ⟨rfl, rfl⟩ := trodVars_none hV
  simp only [List.append_nil] at hsz
  have lt0 : ∀ x ∈ p0, x.block < W.heap.size := by obtain ⟨m, hm⟩ := h0; exact DataW.trod_lt m _ _ _ hm
  have lt1 : ∀ x ∈ p1, x.block < W.heap.size := by obtain ⟨m, hm⟩ := h1; exact DataW.trod_lt m _ _ _ hm
  have lt2 : ∀ x ∈ p2, x.block < W.heap.size := by obtain ⟨m, hm⟩ := h2; exact DataW.trod_lt m _ _ _ hm
  have k0 := h0
  have z0 := sized_each (j := 0) (t := 25) (d := d0) hsz rfl rfl
  obtain ⟨⟨lia, lib, ⟨a_lic, c_lic, lic⟩, _⟩, e0, ⟨_, s_lib, i_lic, _⟩, b0⟩ := open_many (opens0 enc W) h0 (okWide_agg (.inl ⟨_, Tryd.underlying25⟩) (hval 0 25 v0 rfl rfl)) z0
  obtain rfl : v0 = .agg #[.int .u64 ((UInt64.toNat lia : Nat) : Int), .string (bstr lib), .slice a_lic (List.length lic) c_lic] := (by first | exact e0 | exact e0.trans (by simp only [List.append_nil]))
  have k1 := h1
  have z1 := sized_each (j := 1) (t := 9) (d := d1) hsz rfl rfl
  obtain ⟨sx, e1, s_sx, b1⟩ := open_one (opens1 enc W) h1 (one_string Tryd.underlying9 (hval 1 9 v1 rfl rfl)) z1
  obtain rfl : v1 = .string (bstr sx) := List.singleton_inj.1 e1
  have k2 := h2
  have z2 := sized_each (j := 2) (t := 26) (d := d2) hsz rfl rfl
  obtain ⟨cu, e2, _, b2⟩ := open_one (opens2 enc W) h2 (one_int Tryd.underlying26 (hval 2 26 v2 rfl rfl)) z2
  obtain rfl : v2 = .int .u16 ((UInt16.toNat cu : Nat) : Int) := List.singleton_inj.1 e2
  refine (back_walk lia lib a_lic c_lic lic sx cu W s_lib i_lic s_sx (ine_laid hL)).mono fun e W' ⟨he, hev⟩ => ?_
  have bel := hev.below
  subst he
  exact ⟨_, rfl, _, _, _, [], _, [], hW', trodAll_mk1 (shut_bool (by kernel_rfl) _), (trodAll_cons_mk (Below.trod laidOut (by kernel_rfl) (of_decide_eq_true (by kernel_rfl)) k0 bel lt0) (trodAll_cons_mk (Below.trod laidOut (by kernel_rfl) (of_decide_eq_true (by kernel_rfl)) k1 bel lt1) (trodAll_cons_mk (Below.trod laidOut (by kernel_rfl) (of_decide_eq_true (by kernel_rfl)) k2 bel lt2) trodAll_mk0))), rfl, bel.frame _, fun h => by cases h⟩
theorem over : Rows.logsBackRow.holds Tryd.pinned (OpenSpec.ofChange Rows.logsBackSpec) :=
  OpenClaim.holds_of_cond 3 Tryd.f3 rfl rfl rfl rfl rfl rfl rfl ⟨rfl, rfl, rfl, rfl, rfl⟩ rfl rfl rfl rfl rfl (by kernel_rfl) Tryd.func3 (by kernel_rfl)
    (of_decide_eq_true (by kernel_rfl)) (by unfold Func.isWrapper; first | (rw [if_pos (by decide +kernel)]; kernel_rfl) | (rw [if_neg (by decide +kernel)]; exact ⟨rfl, rfl⟩))
    (fun os started H enc _ F => by rw [OpenClaim.pre_eq_preRow]; exact lifted os started H enc F)
theorem plain (f : FuncId) (fn : Func) (hf : Tryd.pinned.checked.prog.funcNamed "drawbridge/drawbridgelaw03.LogsBack" = some f) (hfn : Tryd.pinned.checked.prog.funcs[f]? = some fn) :
    true = Tryd.pinned.checked.prog.looks [] ∧ ∀ (j : Nat) t, fn.params[j]? = some t → Tryd.pinned.checked.prog.wantsStandIn t = false := by
  obtain rfl : f = 3 := Option.some.inj ((show Tryd.prog.funcNamed "drawbridge/drawbridgelaw03.LogsBack" = some 3 by kernel_rfl).symm.trans hf) |>.symm
  obtain rfl : fn = Tryd.f3 := (Option.some.inj (Tryd.func3.symm.trans hfn)).symm
  refine ⟨by kernel_rfl, fun j t ht => ?_⟩
  rw [Tryd.params3] at ht
  have hm : t ∈ (#[25, 9, 26] : Array TypeId) := Array.mem_of_getElem? ht
  simp only [List.mem_toArray, List.mem_cons, List.not_mem_nil, or_false] at hm
  rcases hm with rfl | rfl | rfl
  · exact (show Tryd.prog.wantsStandIn 25 = false by kernel_rfl)
  · exact (show Tryd.prog.wantsStandIn 9 = false by kernel_rfl)
  · exact (show Tryd.prog.wantsStandIn 26 = false by kernel_rfl)
/-- the given statement: the card -/
theorem proved : Rows.LogsBackCardSaid :=
  Claim7.holds_tied_plain_at .later [] _ _ _ _ over (fun _ h => by cases h) (by kernel_rfl) (fun _ h => by cases h) logsBack_row_tie rfl ⟨rfl, rfl⟩ (by kernel_rfl) rfl plain (by kernel_rfl)
#print axioms proved
end Go.Proofs.YtfcfgbejpcmmkaaDoor.logsBack
