import Derived.Test.YtofecellbfhnjaaHb13
import Derived.Test.YtofecellbfhnjaaHb3
import Derived.Deep.CondSized
/- WireHellos returns true for all bytes and greetings whose bulk is no more than 1048576. -/



set_option linter.unusedVariables false
namespace Go.Proofs.Ytofecellbfhnjaa.wireHellos
open Go Go.Dbr Go.ChangeShapes Go.WideShapes Go.ChangeAt Go.RowKit
theorem own : ownKnob Try.prog.godebug = none := by kernel_rfl
theorem laidOut : laidOutB Try.prog = true := by kernel_rfl
set_option maxRecDepth 99999 in
theorem opens0 {H : Type} (enc : TypeId × Value → H) (W : World) : Opens enc Try.prog W 23 1 (fun s : Sl UInt8 => s.f) (fun x => InB W [] x.a x.c x.l) (fun x => List.length x.l) :=
  (opens_bys (by kernel_rfl : Try.prog.underlying 23 = some (.slice 5)) (by kernel_rfl) (by kernel_rfl : Try.prog.underlying 5 = some (.int .u8)) (by kernel_rfl) (by kernel_rfl))
set_option maxRecDepth 99999 in
theorem opens1 {H : Type} (enc : TypeId × Value → H) (W : World) : Opens enc Try.prog W 75 36 (fun p : (UInt16) × (List UInt8) × (Sl UInt8) × (Sl (UInt16)) × (Sl ((UInt16) × (Sl UInt8) × Unit)) × Unit => (fun n : UInt16 => [uv16 n]) p.1 ++ (fun p : (List UInt8) × (Sl UInt8) × (Sl (UInt16)) × (Sl ((UInt16) × (Sl UInt8) × Unit)) × Unit => (fun l : List UInt8 => bys l) p.1 ++ (fun p : (Sl UInt8) × (Sl (UInt16)) × (Sl ((UInt16) × (Sl UInt8) × Unit)) × Unit => (fun s : Sl UInt8 => s.f) p.1 ++ (fun p : (Sl (UInt16)) × (Sl ((UInt16) × (Sl UInt8) × Unit)) × Unit => (fun s : Sl (UInt16) => s.f) p.1 ++ (fun p : (Sl ((UInt16) × (Sl UInt8) × Unit)) × Unit => (fun s : Sl ((UInt16) × (Sl UInt8) × Unit) => s.f) p.1 ++ (fun _ : Unit => []) p.2) p.2) p.2) p.2) p.2) (fun x => (True ∧ ((List.length x.2.1 = 32) ∧ (InB W [] x.2.2.1.a x.2.2.1.c x.2.2.1.l ∧ (InS (fun n : UInt16 => [uv16 n]) 2 (fun x : UInt16 => True) W [] x.2.2.2.1.a x.2.2.2.1.c x.2.2.2.1.l ∧ (InS (fun p : (UInt16) × (Sl UInt8) × Unit => (fun n : UInt16 => [uv16 n]) p.1 ++ (fun p : (Sl UInt8) × Unit => (fun s : Sl UInt8 => s.f) p.1 ++ (fun _ : Unit => []) p.2) p.2) 32 (fun x : (UInt16) × (Sl UInt8) × Unit => (True ∧ (InB W [] x.2.1.a x.2.1.c x.2.1.l ∧ (True)))) W [] x.2.2.2.2.1.a x.2.2.2.2.1.c x.2.2.2.2.1.l ∧ (True))))))) (fun x => (0 + (0 + (List.length x.2.2.1.l + ((List.map (fun x => 0 + 1) x.2.2.2.1.l).sum + ((List.map (fun x => (0 + (List.length x.2.1.l + (0))) + 1) x.2.2.2.2.1.l).sum + (0))))))) :=
  (opens_struct Try.underlying75 (by kernel_rfl) (opensF_cons (opens_u16 (by kernel_rfl : Try.prog.underlying 37 = some (.int .u16)) (by kernel_rfl)) rfl (opensF_cons (opens_byarr (by kernel_rfl : Try.prog.underlying 29 = some (.array 32 5)) (by kernel_rfl) (by kernel_rfl : Try.prog.underlying 5 = some (.int .u8)) (by kernel_rfl)) rfl (opensF_cons (opens_bys (by kernel_rfl : Try.prog.underlying 23 = some (.slice 5)) (by kernel_rfl) (by kernel_rfl : Try.prog.underlying 5 = some (.int .u8)) (by kernel_rfl) (by kernel_rfl)) rfl (opensF_cons (opens_slice (by kernel_rfl : Try.prog.underlying 32 = some (.slice 37)) (by kernel_rfl) (by kernel_rfl) (opens_u16 (by kernel_rfl : Try.prog.underlying 37 = some (.int .u16)) (by kernel_rfl))) rfl (opensF_cons (opens_slice (by kernel_rfl : Try.prog.underlying 36 = some (.slice 147)) (by kernel_rfl) (by kernel_rfl) (opens_struct Try.underlying147 (by kernel_rfl) (opensF_cons (opens_u16 (by kernel_rfl : Try.prog.underlying 37 = some (.int .u16)) (by kernel_rfl)) rfl (opensF_cons (opens_bys (by kernel_rfl : Try.prog.underlying 23 = some (.slice 5)) (by kernel_rfl) (by kernel_rfl : Try.prog.underlying 5 = some (.int .u8)) (by kernel_rfl) (by kernel_rfl)) rfl opensF_nil)))) rfl opensF_nil))))))
set_option maxRecDepth 100000 in
theorem lifted (os : Os) (started : os.Started) (H : Type) (enc : TypeId × Value → H) (F : Stop.Interp) :
    ReturnsInHanded {} Try.checked os 6 .any ((Rows.OpenSpec.upto Rows.wireHellosSpec).pre6 enc Try.prog Try.f6 Rows.wireHellosUptoRow.domain false) (((Rows.OpenSpec.upto Rows.wireHellosSpec).at F).post enc Try.prog Try.f6 false true false false) := by
  refine returnsInHanded_of_cond_sized (C := Try.checked) (s := Rows.OpenSpec.upto Rows.wireHellosSpec) (k := Rows.uptoSmall) rfl own started (by kernel_rfl) Try.func6
    (OpenSpec.witness (enc := enc) (C := Try.checked) (s := Rows.OpenSpec.upto Rows.wireHellosSpec) (k := Rows.uptoSmall) rfl false ⟨#[], #[.slice none 0 0, .agg #[.int .u16 0, .int .u8 0, .int .u8 0, .int .u8 0, .int .u8 0, .int .u8 0, .int .u8 0, .int .u8 0, .int .u8 0, .int .u8 0, .int .u8 0, .int .u8 0, .int .u8 0, .int .u8 0, .int .u8 0, .int .u8 0, .int .u8 0, .int .u8 0, .int .u8 0, .int .u8 0, .int .u8 0, .int .u8 0, .int .u8 0, .int .u8 0, .int .u8 0, .int .u8 0, .int .u8 0, .int .u8 0, .int .u8 0, .int .u8 0, .int .u8 0, .int .u8 0, .int .u8 0, .slice none 0 0, .slice none 0 0, .slice none 0 0]], []⟩ 12 (by kernel_rfl) (by kernel_rfl) (by kernel_rfl)
      (x := ([.nil, .agg [.lit (.int .u16 0), .agg [.lit (.int .u8 0), .lit (.int .u8 0), .lit (.int .u8 0), .lit (.int .u8 0), .lit (.int .u8 0), .lit (.int .u8 0), .lit (.int .u8 0), .lit (.int .u8 0), .lit (.int .u8 0), .lit (.int .u8 0), .lit (.int .u8 0), .lit (.int .u8 0), .lit (.int .u8 0), .lit (.int .u8 0), .lit (.int .u8 0), .lit (.int .u8 0), .lit (.int .u8 0), .lit (.int .u8 0), .lit (.int .u8 0), .lit (.int .u8 0), .lit (.int .u8 0), .lit (.int .u8 0), .lit (.int .u8 0), .lit (.int .u8 0), .lit (.int .u8 0), .lit (.int .u8 0), .lit (.int .u8 0), .lit (.int .u8 0), .lit (.int .u8 0), .lit (.int .u8 0), .lit (.int .u8 0), .lit (.int .u8 0)], .nil, .nil, .nil]], [], [])) (by kernel_rfl) rfl (by kernel_rfl)) ?_
  intro W base args ds gs before hval0 hW _ hbulk0 hsz0 _
  have hval : ∀ (j : Nat) t v, Try.f6.params[j]? = some t → args[j]? = some v → Value.okWide Try.prog W .any base t v := hval0
  have hW' := hW
  obtain ⟨p, q, hA0, hV, rfl, _, _⟩ := hW
  have hA : DataW.TrodAll enc Try.prog W 0 (fun _ => true) true Try.f6.params.toList args.toList ds p := hA0
  have hsz : (DataW.weightsEach Try.prog (Try.f6.params.toList ++ []) (ds ++ gs)).all (· ≤ reachBytes) = true := hsz0
  rw [Try.params6] at hA hval hsz
  obtain ⟨v0, vs0, d0, ds0, p0, q0, hargs, rfl, rfl, h0, r0⟩ := trodAll_cons hA
  obtain ⟨v1, vs1, d1, ds1, p1, q1, rfl, rfl, rfl, h1, r1⟩ := trodAll_cons r0
  obtain ⟨rfl, rfl, rfl⟩ := trodAll_nil r1
  obtain rfl : args = #[v0, v1] := by cases args; simp_all
  obtain ⟨rfl, rfl⟩ := trodVars_none hV
  simp only [List.append_nil] at hsz
  have lt0 : ∀ x ∈ p0, x.block < W.heap.size := by obtain ⟨m, hm⟩ := h0; exact DataW.trod_lt m _ _ _ hm
  have lt1 : ∀ x ∈ p1, x.block < W.heap.size := by obtain ⟨m, hm⟩ := h1; exact DataW.trod_lt m _ _ _ hm
  have k0 := h0
  have z0 := sized_each (j := 0) (t := 23) (d := d0) hsz rfl rfl
  obtain ⟨⟨a_b, c_b, b⟩, e0, i_b, b0⟩ := open_one (opens0 enc W) h0 (one_slice Try.underlying23 (hval 0 23 v0 rfl rfl)) z0
  obtain rfl : v0 = .slice a_b (List.length b) c_b := List.singleton_inj.1 e0
  have k1 := h1
  have z1 := sized_each (j := 1) (t := 75) (d := d1) hsz rfl rfl
  obtain ⟨⟨ha, hb, ⟨a_hc, c_hc, hc⟩, ⟨a_hd, c_hd, hd⟩, ⟨a_he, c_he, he⟩, _⟩, e1, ⟨_, n_hb, i_hc, i_hd, i_he, _⟩, b1⟩ := open_many (opens1 enc W) h1 (okWide_agg (.inl ⟨_, Try.underlying75⟩) (hval 1 75 v1 rfl rfl)) z1
  obtain rfl : v1 = .agg (List.toArray (([.int .u16 ((UInt16.toNat ha : Nat) : Int)] : List Value) ++ ((bys hb) ++ ([.slice a_hc (List.length hc) c_hc, .slice a_hd (List.length hd) c_hd, .slice a_he (List.length he) c_he] : List Value)))) := (by first | exact e1 | exact e1.trans (by simp only [List.append_nil]))
  have hbulk := bulk_at (ds := [d0, d1] ++ []) hbulk0
  simp only [List.append_nil, Rows.uptoBulkAll] at hbulk
  have c0 : List.length b + 1 ≤ Rows.uptoBulk d0 := b0
  have c1 : (0 + (0 + (List.length hc + ((List.map (fun x => 0 + 1) hd).sum + ((List.map (fun x => (0 + (List.length x.2.1.l + (0))) + 1) he).sum + (0)))))) + 1 ≤ Rows.uptoBulk d1 := b1
  have hB : (List.length b) + (0 + (0 + (List.length hc + ((List.map (fun x => 0 + 1) hd).sum + ((List.map (fun x => (0 + (List.length x.2.1.l + (0))) + 1) he).sum + (0)))))) ≤ 1048576 := by omega
  refine (hellos_walk a_b c_b b ha hb a_hc c_hc hc a_hd c_hd hd a_he c_he he W i_b n_hb i_hc i_hd i_he hB).mono fun e W' ⟨he, hev⟩ => ?_
  have bel := hev.below
  subst he
  exact ⟨_, rfl, _, _, _, [], _, [], hW', trodAll_mk1 (shut_bool (by kernel_rfl) _), (trodAll_cons_mk (Below.trod laidOut (by kernel_rfl) (of_decide_eq_true (by kernel_rfl)) k0 bel lt0) (trodAll_cons_mk (Below.trod laidOut (by kernel_rfl) (of_decide_eq_true (by kernel_rfl)) k1 bel lt1) trodAll_mk0)), rfl, bel.frame _, fun h => by cases h⟩
theorem over : Rows.wireHellosUptoRow.holds Try.pinned (Rows.OpenSpec.upto Rows.wireHellosSpec) :=
  OpenClaim.holds_of_cond 6 Try.f6 rfl rfl rfl rfl rfl rfl rfl ⟨rfl, rfl, rfl, rfl, rfl⟩ rfl rfl rfl rfl rfl (by kernel_rfl) Try.func6 (by kernel_rfl)
    (of_decide_eq_true (by kernel_rfl)) (by unfold Func.isWrapper; first | (rw [if_pos (by decide +kernel)]; kernel_rfl) | (rw [if_neg (by decide +kernel)]; exact ⟨rfl, rfl⟩))
    (fun os started H enc _ F => lifted os started H enc F)
/-- the given statement -/
theorem proved : Rows.WireHellosUptoSaid := over
#print axioms proved
end Go.Proofs.Ytofecellbfhnjaa.wireHellos
