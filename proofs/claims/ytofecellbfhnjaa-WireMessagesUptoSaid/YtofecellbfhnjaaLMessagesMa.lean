import Derived.Test.YtofecellbfhnjaaMa13
import Derived.Test.YtofecellbfhnjaaMa3
import Derived.Deep.CondSized
/- WireMessages returns true for all bytes, certificates, tickets and signatures whose bulk is no more than 1048576. -/



set_option linter.unusedVariables false
namespace Go.Proofs.Ytofecellbfhnjaa.wireMessages
open Go Go.Dbr Go.ChangeShapes Go.WideShapes Go.ChangeAt Go.RowKit
theorem own : ownKnob Try.prog.godebug = none := by kernel_rfl
theorem laidOut : laidOutB Try.prog = true := by kernel_rfl
set_option maxRecDepth 99999 in
theorem opens0 {H : Type} (enc : TypeId × Value → H) (W : World) : Opens enc Try.prog W 23 1 (fun s : Sl UInt8 => s.f) (fun x => InB W [] x.a x.c x.l) (fun x => List.length x.l) :=
  (opens_bys (by kernel_rfl : Try.prog.underlying 23 = some (.slice 5)) (by kernel_rfl) (by kernel_rfl : Try.prog.underlying 5 = some (.int .u8)) (by kernel_rfl) (by kernel_rfl))
set_option maxRecDepth 99999 in
theorem opens1 {H : Type} (enc : TypeId × Value → H) (W : World) : Opens enc Try.prog W 83 2 (fun p : (Sl UInt8) × (Sl ((Sl UInt8) × (Sl ((UInt16) × (Sl UInt8) × Unit)) × Unit)) × Unit => (fun s : Sl UInt8 => s.f) p.1 ++ (fun p : (Sl ((Sl UInt8) × (Sl ((UInt16) × (Sl UInt8) × Unit)) × Unit)) × Unit => (fun s : Sl ((Sl UInt8) × (Sl ((UInt16) × (Sl UInt8) × Unit)) × Unit) => s.f) p.1 ++ (fun _ : Unit => []) p.2) p.2) (fun x => (InB W [] x.1.a x.1.c x.1.l ∧ (InS (fun p : (Sl UInt8) × (Sl ((UInt16) × (Sl UInt8) × Unit)) × Unit => (fun s : Sl UInt8 => s.f) p.1 ++ (fun p : (Sl ((UInt16) × (Sl UInt8) × Unit)) × Unit => (fun s : Sl ((UInt16) × (Sl UInt8) × Unit) => s.f) p.1 ++ (fun _ : Unit => []) p.2) p.2) 48 (fun x : (Sl UInt8) × (Sl ((UInt16) × (Sl UInt8) × Unit)) × Unit => (InB W [] x.1.a x.1.c x.1.l ∧ (InS (fun p : (UInt16) × (Sl UInt8) × Unit => (fun n : UInt16 => [uv16 n]) p.1 ++ (fun p : (Sl UInt8) × Unit => (fun s : Sl UInt8 => s.f) p.1 ++ (fun _ : Unit => []) p.2) p.2) 32 (fun x : (UInt16) × (Sl UInt8) × Unit => (True ∧ (InB W [] x.2.1.a x.2.1.c x.2.1.l ∧ (True)))) W [] x.2.1.a x.2.1.c x.2.1.l ∧ (True)))) W [] x.2.1.a x.2.1.c x.2.1.l ∧ (True)))) (fun x => (List.length x.1.l + ((List.map (fun x => (List.length x.1.l + ((List.map (fun x => (0 + (List.length x.2.1.l + (0))) + 1) x.2.1.l).sum + (0))) + 1) x.2.1.l).sum + (0)))) :=
  (opens_struct Try.underlying83 (by kernel_rfl) (opensF_cons (opens_bys (by kernel_rfl : Try.prog.underlying 23 = some (.slice 5)) (by kernel_rfl) (by kernel_rfl : Try.prog.underlying 5 = some (.int .u8)) (by kernel_rfl) (by kernel_rfl)) rfl (opensF_cons (opens_slice (by kernel_rfl : Try.prog.underlying 81 = some (.slice 196)) (by kernel_rfl) (by kernel_rfl) (opens_struct Try.underlying196 (by kernel_rfl) (opensF_cons (opens_bys (by kernel_rfl : Try.prog.underlying 23 = some (.slice 5)) (by kernel_rfl) (by kernel_rfl : Try.prog.underlying 5 = some (.int .u8)) (by kernel_rfl) (by kernel_rfl)) rfl (opensF_cons (opens_slice (by kernel_rfl : Try.prog.underlying 36 = some (.slice 147)) (by kernel_rfl) (by kernel_rfl) (opens_struct Try.underlying147 (by kernel_rfl) (opensF_cons (opens_u16 (by kernel_rfl : Try.prog.underlying 37 = some (.int .u16)) (by kernel_rfl)) rfl (opensF_cons (opens_bys (by kernel_rfl : Try.prog.underlying 23 = some (.slice 5)) (by kernel_rfl) (by kernel_rfl : Try.prog.underlying 5 = some (.int .u8)) (by kernel_rfl) (by kernel_rfl)) rfl opensF_nil)))) rfl opensF_nil)))) rfl opensF_nil)))
set_option maxRecDepth 99999 in
theorem opens2 {H : Type} (enc : TypeId × Value → H) (W : World) : Opens enc Try.prog W 86 5 (fun p : (UInt32) × (UInt32) × (Sl UInt8) × (Sl UInt8) × (Sl ((UInt16) × (Sl UInt8) × Unit)) × Unit => (fun n : UInt32 => [uv32 n]) p.1 ++ (fun p : (UInt32) × (Sl UInt8) × (Sl UInt8) × (Sl ((UInt16) × (Sl UInt8) × Unit)) × Unit => (fun n : UInt32 => [uv32 n]) p.1 ++ (fun p : (Sl UInt8) × (Sl UInt8) × (Sl ((UInt16) × (Sl UInt8) × Unit)) × Unit => (fun s : Sl UInt8 => s.f) p.1 ++ (fun p : (Sl UInt8) × (Sl ((UInt16) × (Sl UInt8) × Unit)) × Unit => (fun s : Sl UInt8 => s.f) p.1 ++ (fun p : (Sl ((UInt16) × (Sl UInt8) × Unit)) × Unit => (fun s : Sl ((UInt16) × (Sl UInt8) × Unit) => s.f) p.1 ++ (fun _ : Unit => []) p.2) p.2) p.2) p.2) p.2) (fun x => (True ∧ (True ∧ (InB W [] x.2.2.1.a x.2.2.1.c x.2.2.1.l ∧ (InB W [] x.2.2.2.1.a x.2.2.2.1.c x.2.2.2.1.l ∧ (InS (fun p : (UInt16) × (Sl UInt8) × Unit => (fun n : UInt16 => [uv16 n]) p.1 ++ (fun p : (Sl UInt8) × Unit => (fun s : Sl UInt8 => s.f) p.1 ++ (fun _ : Unit => []) p.2) p.2) 32 (fun x : (UInt16) × (Sl UInt8) × Unit => (True ∧ (InB W [] x.2.1.a x.2.1.c x.2.1.l ∧ (True)))) W [] x.2.2.2.2.1.a x.2.2.2.2.1.c x.2.2.2.2.1.l ∧ (True))))))) (fun x => (0 + (0 + (List.length x.2.2.1.l + (List.length x.2.2.2.1.l + ((List.map (fun x => (0 + (List.length x.2.1.l + (0))) + 1) x.2.2.2.2.1.l).sum + (0))))))) :=
  (opens_struct Try.underlying86 (by kernel_rfl) (opensF_cons (opens_u32 (by kernel_rfl : Try.prog.underlying 84 = some (.int .u32)) (by kernel_rfl)) rfl (opensF_cons (opens_u32 (by kernel_rfl : Try.prog.underlying 84 = some (.int .u32)) (by kernel_rfl)) rfl (opensF_cons (opens_bys (by kernel_rfl : Try.prog.underlying 23 = some (.slice 5)) (by kernel_rfl) (by kernel_rfl : Try.prog.underlying 5 = some (.int .u8)) (by kernel_rfl) (by kernel_rfl)) rfl (opensF_cons (opens_bys (by kernel_rfl : Try.prog.underlying 23 = some (.slice 5)) (by kernel_rfl) (by kernel_rfl : Try.prog.underlying 5 = some (.int .u8)) (by kernel_rfl) (by kernel_rfl)) rfl (opensF_cons (opens_slice (by kernel_rfl : Try.prog.underlying 36 = some (.slice 147)) (by kernel_rfl) (by kernel_rfl) (opens_struct Try.underlying147 (by kernel_rfl) (opensF_cons (opens_u16 (by kernel_rfl : Try.prog.underlying 37 = some (.int .u16)) (by kernel_rfl)) rfl (opensF_cons (opens_bys (by kernel_rfl : Try.prog.underlying 23 = some (.slice 5)) (by kernel_rfl) (by kernel_rfl : Try.prog.underlying 5 = some (.int .u8)) (by kernel_rfl) (by kernel_rfl)) rfl opensF_nil)))) rfl opensF_nil))))))
set_option maxRecDepth 99999 in
theorem opens3 {H : Type} (enc : TypeId × Value → H) (W : World) : Opens enc Try.prog W 88 2 (fun p : (UInt16) × (Sl UInt8) × Unit => (fun n : UInt16 => [uv16 n]) p.1 ++ (fun p : (Sl UInt8) × Unit => (fun s : Sl UInt8 => s.f) p.1 ++ (fun _ : Unit => []) p.2) p.2) (fun x => (True ∧ (InB W [] x.2.1.a x.2.1.c x.2.1.l ∧ (True)))) (fun x => (0 + (List.length x.2.1.l + (0)))) :=
  (opens_struct Try.underlying88 (by kernel_rfl) (opensF_cons (opens_u16 (by kernel_rfl : Try.prog.underlying 37 = some (.int .u16)) (by kernel_rfl)) rfl (opensF_cons (opens_bys (by kernel_rfl : Try.prog.underlying 23 = some (.slice 5)) (by kernel_rfl) (by kernel_rfl : Try.prog.underlying 5 = some (.int .u8)) (by kernel_rfl) (by kernel_rfl)) rfl opensF_nil)))
set_option maxRecDepth 100000 in
theorem lifted (os : Os) (started : os.Started) (H : Type) (enc : TypeId × Value → H) (F : Stop.Interp) :
    ReturnsInHanded {} Try.checked os 7 .any ((Rows.OpenSpec.upto Rows.wireMessagesSpec).pre6 enc Try.prog Try.f7 Rows.wireMessagesUptoRow.domain false) (((Rows.OpenSpec.upto Rows.wireMessagesSpec).at F).post enc Try.prog Try.f7 false true false false) := by
  refine returnsInHanded_of_cond_sized (C := Try.checked) (s := Rows.OpenSpec.upto Rows.wireMessagesSpec) (k := Rows.uptoSmall) rfl own started (by kernel_rfl) Try.func7
    (OpenSpec.witness (enc := enc) (C := Try.checked) (s := Rows.OpenSpec.upto Rows.wireMessagesSpec) (k := Rows.uptoSmall) rfl false ⟨#[], #[.slice none 0 0, .agg #[.slice none 0 0, .slice none 0 0], .agg #[.int .u32 0, .int .u32 0, .slice none 0 0, .slice none 0 0, .slice none 0 0], .agg #[.int .u16 0, .slice none 0 0]], []⟩ 12 (by kernel_rfl) (by kernel_rfl) (by kernel_rfl)
      (x := ([.nil, .agg [.nil, .nil], .agg [.lit (.int .u32 0), .lit (.int .u32 0), .nil, .nil, .nil], .agg [.lit (.int .u16 0), .nil]], [], [])) (by kernel_rfl) rfl (by kernel_rfl)) ?_
  intro W base args ds gs before hval0 hW _ hbulk0 hsz0 _
  have hval : ∀ (j : Nat) t v, Try.f7.params[j]? = some t → args[j]? = some v → Value.okWide Try.prog W .any base t v := hval0
  have hW' := hW
  obtain ⟨p, q, hA0, hV, rfl, _, _⟩ := hW
  have hA : DataW.TrodAll enc Try.prog W 0 (fun _ => true) true Try.f7.params.toList args.toList ds p := hA0
  have hsz : (DataW.weightsEach Try.prog (Try.f7.params.toList ++ []) (ds ++ gs)).all (· ≤ reachBytes) = true := hsz0
  rw [Try.params7] at hA hval hsz
  obtain ⟨v0, vs0, d0, ds0, p0, q0, hargs, rfl, rfl, h0, r0⟩ := trodAll_cons hA
  obtain ⟨v1, vs1, d1, ds1, p1, q1, rfl, rfl, rfl, h1, r1⟩ := trodAll_cons r0
  obtain ⟨v2, vs2, d2, ds2, p2, q2, rfl, rfl, rfl, h2, r2⟩ := trodAll_cons r1
  obtain ⟨v3, vs3, d3, ds3, p3, q3, rfl, rfl, rfl, h3, r3⟩ := trodAll_cons r2
  obtain ⟨rfl, rfl, rfl⟩ := trodAll_nil r3
  obtain rfl : args = #[v0, v1, v2, v3] := by cases args; simp_all
  obtain ⟨rfl, rfl⟩ := trodVars_none hV
  simp only [List.append_nil] at hsz
  have lt0 : ∀ x ∈ p0, x.block < W.heap.size := by obtain ⟨m, hm⟩ := h0; exact DataW.trod_lt m _ _ _ hm
  have lt1 : ∀ x ∈ p1, x.block < W.heap.size := by obtain ⟨m, hm⟩ := h1; exact DataW.trod_lt m _ _ _ hm
  have lt2 : ∀ x ∈ p2, x.block < W.heap.size := by obtain ⟨m, hm⟩ := h2; exact DataW.trod_lt m _ _ _ hm
  have lt3 : ∀ x ∈ p3, x.block < W.heap.size := by obtain ⟨m, hm⟩ := h3; exact DataW.trod_lt m _ _ _ hm
  have k0 := h0
  have z0 := sized_each (j := 0) (t := 23) (d := d0) hsz rfl rfl
  obtain ⟨⟨a_b, c_b, b⟩, e0, i_b, b0⟩ := open_one (opens0 enc W) h0 (one_slice Try.underlying23 (hval 0 23 v0 rfl rfl)) z0
  obtain rfl : v0 = .slice a_b (List.length b) c_b := List.singleton_inj.1 e0
  have k1 := h1
  have z1 := sized_each (j := 1) (t := 83) (d := d1) hsz rfl rfl
  obtain ⟨⟨⟨a_ma, c_ma, ma⟩, ⟨a_mb, c_mb, mb⟩, _⟩, e1, ⟨i_ma, i_mb, _⟩, b1⟩ := open_many (opens1 enc W) h1 (okWide_agg (.inl ⟨_, Try.underlying83⟩) (hval 1 83 v1 rfl rfl)) z1
  obtain rfl : v1 = .agg #[.slice a_ma (List.length ma) c_ma, .slice a_mb (List.length mb) c_mb] := (by first | exact e1 | exact e1.trans (by simp only [List.append_nil]))
  have k2 := h2
  have z2 := sized_each (j := 2) (t := 86) (d := d2) hsz rfl rfl
  obtain ⟨⟨ta, tb, ⟨a_tc, c_tc, tc⟩, ⟨a_td, c_td, td⟩, ⟨a_te, c_te, te⟩, _⟩, e2, ⟨_, _, i_tc, i_td, i_te, _⟩, b2⟩ := open_many (opens2 enc W) h2 (okWide_agg (.inl ⟨_, Try.underlying86⟩) (hval 2 86 v2 rfl rfl)) z2
  obtain rfl : v2 = .agg #[.int .u32 ((UInt32.toNat ta : Nat) : Int), .int .u32 ((UInt32.toNat tb : Nat) : Int), .slice a_tc (List.length tc) c_tc, .slice a_td (List.length td) c_td, .slice a_te (List.length te) c_te] := (by first | exact e2 | exact e2.trans (by simp only [List.append_nil]))
  have k3 := h3
  have z3 := sized_each (j := 3) (t := 88) (d := d3) hsz rfl rfl
  obtain ⟨⟨va, ⟨a_vb, c_vb, vb⟩, _⟩, e3, ⟨_, i_vb, _⟩, b3⟩ := open_many (opens3 enc W) h3 (okWide_agg (.inl ⟨_, Try.underlying88⟩) (hval 3 88 v3 rfl rfl)) z3
  obtain rfl : v3 = .agg #[.int .u16 ((UInt16.toNat va : Nat) : Int), .slice a_vb (List.length vb) c_vb] := (by first | exact e3 | exact e3.trans (by simp only [List.append_nil]))
  have hbulk := bulk_at (ds := [d0, d1, d2, d3] ++ []) hbulk0
  simp only [List.append_nil, Rows.uptoBulkAll] at hbulk
  have c0 : List.length b + 1 ≤ Rows.uptoBulk d0 := b0
  have c1 : (List.length ma + ((List.map (fun x => (List.length x.1.l + ((List.map (fun x => (0 + (List.length x.2.1.l + (0))) + 1) x.2.1.l).sum + (0))) + 1) mb).sum + (0))) + 1 ≤ Rows.uptoBulk d1 := b1
  have c2 : (0 + (0 + (List.length tc + (List.length td + ((List.map (fun x => (0 + (List.length x.2.1.l + (0))) + 1) te).sum + (0)))))) + 1 ≤ Rows.uptoBulk d2 := b2
  have c3 : (0 + (List.length vb + (0))) + 1 ≤ Rows.uptoBulk d3 := b3
  have hB : (List.length b) + (List.length ma + ((List.map (fun x => (List.length x.1.l + ((List.map (fun x => (0 + (List.length x.2.1.l + (0))) + 1) x.2.1.l).sum + (0))) + 1) mb).sum + (0))) + (0 + (0 + (List.length tc + (List.length td + ((List.map (fun x => (0 + (List.length x.2.1.l + (0))) + 1) te).sum + (0)))))) + (0 + (List.length vb + (0))) ≤ 1048576 := by omega
  refine (messages_walk a_b c_b b a_ma c_ma ma a_mb c_mb mb ta tb a_tc c_tc tc a_td c_td td a_te c_te te va a_vb c_vb vb W i_b i_ma i_mb i_tc i_td i_te i_vb hB).mono fun e W' ⟨he, hev⟩ => ?_
  have bel := hev.below
  subst he
  exact ⟨_, rfl, _, _, _, [], _, [], hW', trodAll_mk1 (shut_bool (by kernel_rfl) _), (trodAll_cons_mk (Below.trod laidOut (by kernel_rfl) (of_decide_eq_true (by kernel_rfl)) k0 bel lt0) (trodAll_cons_mk (Below.trod laidOut (by kernel_rfl) (of_decide_eq_true (by kernel_rfl)) k1 bel lt1) (trodAll_cons_mk (Below.trod laidOut (by kernel_rfl) (of_decide_eq_true (by kernel_rfl)) k2 bel lt2) (trodAll_cons_mk (Below.trod laidOut (by kernel_rfl) (of_decide_eq_true (by kernel_rfl)) k3 bel lt3) trodAll_mk0)))), rfl, bel.frame _, fun h => by cases h⟩
theorem over : Rows.wireMessagesUptoRow.holds Try.pinned (Rows.OpenSpec.upto Rows.wireMessagesSpec) :=
  OpenClaim.holds_of_cond 7 Try.f7 rfl rfl rfl rfl rfl rfl rfl ⟨rfl, rfl, rfl, rfl, rfl⟩ rfl rfl rfl rfl rfl (by kernel_rfl) Try.func7 (by kernel_rfl)
    (of_decide_eq_true (by kernel_rfl)) (by unfold Func.isWrapper; first | (rw [if_pos (by decide +kernel)]; kernel_rfl) | (rw [if_neg (by decide +kernel)]; exact ⟨rfl, rfl⟩))
    (fun os started H enc _ F => lifted os started H enc F)
/-- the given statement -/
theorem proved : Rows.WireMessagesUptoSaid := over
#print axioms proved
end Go.Proofs.Ytofecellbfhnjaa.wireMessages
