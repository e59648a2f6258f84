import Derived.WalkKit
import Derived.WalkSpells
import Derived.WalkLawsBesides
import Derived.Deep.AppendSrc
import Derived.Deep.DeepAppendWide
import Derived.Orders
import Derived.KernelRfl
import Derived.MapKept
import Derived.ProofKit
import Derived.OpenShut
import Derived.SizedLaws
import Derived.Test.YtpfhmbbiadpbeaaGreatRows
import Derived.Deep.Slices
import Derived.ChangeArms
import Derived.Lib.AppendZeros
import Derived.Laws.CopyRow
import Derived.Laws.MakeOwn
import Derived.ChangeKeysEq
import Derived.Laws.StructEq
open List renaming getD → zb, replicate → zd, length_append → zE, length_cons → zL, getElem?_append_left → zY, getElem?_eq_getElem → z3, all_eq_true → z7, getElem?_append_right → Ze, length_take → Zg, contains_iff_mem → Zl, getElem?_eq_some_iff → Zr, getElem?_eq_none → ZR, append_assoc → Qo, map_cons → Qs, mem_cons → Qt, getElem?_set_self → QE, getElem?_take → QT, getElem?_cons_zero → QY, range → Q3, mem_append → Q4, getElem?_map → Yh, length_drop → Yq, getElem?_cons_succ → Ys, take_append_drop → YN, flatMap_cons → YP, ext_getElem? → YQ, getElem?_set_ne → YT, mem_map → YX, getElem?_drop → Ji, append_nil → JP, size_toArray → Xb, range_succ_eq_map → Xt, map_map → Xu, drop_eq_nil_of_le → Xv, getElem?_toArray → XK, mem_iff_getElem → XQ, sum_cons → X6, map_set → Kb
open UInt64 renaming ofNat → zi, toNat → zk, toNat_ofNat' → Y8
open UInt32 renaming ofNat → zH, toNat → ZK, toNat_ofNat' → XY
open Nat renaming mul_one → zI, mod_eq_of_lt → zQ, mul_comm → Zf, add_mul → ZE, add_zero → ZP, shiftRight_eq_div_pow → Z8, le_refl → Qg, beq → Qn, mul_le_mul_right → QW, shiftLeft_eq → Ya, zero_add → Yi, eq_zero_or_pos → Jh, le_trans → Jp, le_of_ble_eq_true → Jy, add_le_add_right → XO, ble → Kz, le_of_eq → KA
open Bool renaming and_eq_true → zJ, eq_iff_iff → Ko
open BitVec renaming ofInt → zP, eq_of_toNat_eq → Zv, toNat_ofInt → X8
open Array renaming getElem?_setIfInBounds_ne → Zm, getElem?_eq_some_iff → Zx, length_toList → Yp, replicate → YE, getElem?_setIfInBounds_self_of_lt → YR, toArray_toList → JJ, getElem?_append_left → J0
open UInt8 renaming toNat → QN
open Option renaming map_some → Q1
open Int renaming natCast_mul → YF, fdiv_eq_ediv_of_nonneg → YU, natCast_pow → JQ, natCast_ediv → Kg, pow_nonneg → Kq
namespace Go.Dbr
open Go
def look : List (Nat × Value) → Nat → Option Value
  | [], _ => none
  | (i, v) :: r, t => bif Qn i t then some v else look r t
theorem look_self (i : Nat) (v : Value) (r : List (Nat × Value)) : look ((i, v) :: r) i = some v := by
  simp [look]
theorem look_other {i t : Nat} (v : Value) (r : List (Nat × Value)) (h : i ≠ t) : look ((i, v) :: r) t = look r t := by
  have : Qn i t = false := by
    cases hb : Qn i t with
    | false => rfl
    | true => exact absurd (Nat.eq_of_beq_eq_true hb) h
  simp [look, this]
structure Env (a : Act) (n : Nat) (l : List (Nat × Value)) : Prop where
  size : a.tmps.size = n
  defers : a.defers = []
  slot : ∀ i v, look l i = some v → a.tmps[i]? = some v
def val (l : List (Nat × Value)) : Operand → Value
  | .tmp t => (look l t).getD undef
  | .const v => v
  | .global g => .pointer (some ⟨g, 0, none⟩)
  | .func f => .func (.func f) #[] #[]
def known (l : List (Nat × Value)) : Operand → Bool
  | .tmp t => (look l t).isSome
  | _ => true
theorem Env.getD {a : Act} {n : Nat} {l : List (Nat × Value)} (E : Env a n l) {t : Nat} {v : Value} (h : look l t = some v) : a.tmps.getD t undef = v := by
  have := E.slot t v h
  simp [this]
theorem Env.eval {a : Act} {n : Nat} {l : List (Nat × Value)} (E : Env a n l) {x : Operand} (h : known l x = true) : a.eval x = val l x := by
  cases x with
  | tmp t =>
    simp only [known] at h
    obtain ⟨v, hv⟩ := Option.isSome_iff_exists.1 h
    simp only [Act.eval, val, hv, Option.getD_some]
    exact E.getD hv
  | _ => rfl
def putl (d : Option Tmp) (v : Value) (l : List (Nat × Value)) : List (Nat × Value) :=
  match d with
  | some d => (d, v) :: l
  | none => l
def fits (n : Nat) : Option Tmp → Bool
  | none => true
  | some d => Nat.blt d n
theorem Env.put {a : Act} {n : Nat} {l : List (Nat × Value)} (E : Env a n l) {d : Option Tmp} (v : Value) (h : fits n d = true) : Env (a.put d v) n (putl d v l) := by
  cases d with
  | none => exact E
  | some d =>
    have h1 : Kz (d + 1) n = true := h
    have hd : d < n := Jy h1
    refine ⟨by simp [Act.put, E.size], by simp [Act.put, E.defers], fun i u hu => ?_⟩
    simp only [Act.put, putl] at hu ⊢
    by_cases hi : d = i
    · subst hi
      rw [look_self] at hu
      cases hu
      rw [YR (by rw [E.size]; exact hd)]
    · rw [look_other _ _ hi] at hu
      rw [Zm hi]
      exact E.slot i u hu
theorem look_map_some {L l' : List (Nat × Value)} (h : l'.map (fun p => look L p.1) = l'.map (fun p => some p.2)) :
    ∀ i v, look l' i = some v → look L i = some v := by
  induction l' with
  | nil => intro i v hv; cases hv
  | cons p r ih =>
    obtain ⟨j, u⟩ := p
    simp only [Qs, List.cons.injEq] at h
    intro i v hv
    by_cases hi : j = i
    · subst hi
      rw [look_self] at hv
      cases hv
      exact h.1
    · rw [look_other _ _ hi] at hv
      exact ih h.2 i v hv
theorem Env.sub {a : Act} {n : Nat} {L : List (Nat × Value)} (E : Env a n L) {l' : List (Nat × Value)} (h : l'.map (fun p => look L p.1) = l'.map (fun p => some p.2)) : Env a n l' :=
  ⟨E.size, E.defers, fun i v hv => E.slot i v (look_map_some h i v hv)⟩
theorem Env.start {args : Array Value} {n : Nat} {l : List (Nat × Value)} (hn : args.size ≤ n)
    (h : l.map (fun p => args[p.1]?) = l.map (fun p => some p.2)) : Env { tmps := args ++ YE (n - args.size) undef, defers := [] } n l := by
  refine ⟨by simp; omega, rfl, ?_⟩
  induction l with
  | nil => intro i v hv; cases hv
  | cons p r ih =>
    obtain ⟨j, u⟩ := p
    simp only [Qs, List.cons.injEq] at h
    intro i v hv
    by_cases hi : j = i
    · subst hi
      rw [look_self] at hv
      cases hv
      have h1 := h.1
      have hlt : j < args.size := (Zx.1 h1).1
      rw [J0 hlt]
      exact h1
    · rw [look_other _ _ hi] at hv
      exact ih h.2 i v hv
inductive Out where
  | run (d : Option Tmp) (s : Sem Next)
  | skip (d : Option Tmp)
def guardOf (ops : Array Oper) (l : List (Nat × Value)) (o : Oper) : Option Bool :=
  match o.guard with
  | none => some true
  | some (j, want) =>
    match (ops[j]?).bind (·.dst) with
    | none => some false
    | some d =>
      match look l d with
      | none => none
      | some (.bool b) => some (b == want)
      | some _ => some false
def isSel : Op → Bool
  | .select _ _ => true
  | _ => false
def opAt (ops : Array Oper) (n i : Nat) (l : List (Nat × Value)) : Option Out :=
  match ops[i]? with
  | none => none
  | some o =>
    match guardOf ops l o with
    | none => none
    | some false => if fits n o.dst then some (.skip o.dst) else none
    | some true => if fits n o.dst && !isSel o.op && o.op.operands.toList.all (known l) then some (.run o.dst (execOp (val l) o)) else none
theorem guardOf_spec {a : Act} {n : Nat} {l : List (Nat × Value)} (E : Env a n l) {ops : Array Oper} {o : Oper} {t : Bool} (h : guardOf ops l o = some t) :
    Region.wanted o (yielded ops a.tmps) = t := by
  unfold guardOf at h
  unfold Region.wanted
  cases hg : o.guard with
  | none => rw [hg] at h; simpa using h
  | some gw =>
    obtain ⟨j, want⟩ := gw
    simp only [hg] at h
    simp only
    unfold yielded
    cases hd : (ops[j]?).bind (·.dst) with
    | none => simp only [hd, Option.some.injEq] at h; simp [← h]
    | some d =>
      simp only [hd] at h
      cases hl : look l d with
      | none => simp [hl] at h
      | some v =>
        have hs := E.slot d v hl
        simp only [Option.bind_some, hs]
        cases v <;> simp_all
theorem opAt_run {a : Act} {n i : Nat} {l : List (Nat × Value)} (E : Env a n l) {ops : Array Oper} {d : Option Tmp} {s : Sem Next} (h : opAt ops n i l = some (.run d s)) :
    ∃ o, ops[i]? = some o ∧ Region.wanted o (yielded ops a.tmps) = true ∧ o.dst = d ∧ execOp a.eval o = s ∧ fits n d = true ∧ ∀ cs b, o.op ≠ .select cs b := by
  unfold opAt at h
  cases ho : ops[i]? with
  | none => simp [ho] at h
  | some o =>
    simp only [ho] at h
    cases hg : guardOf ops l o with
    | none => simp [hg] at h
    | some t =>
      cases t with
      | false =>
        simp only [hg] at h
        split at h <;> simp at h
      | true =>
        simp only [hg] at h
        split at h
        · rename_i hc
          simp only [zJ, Bool.not_eq_true', z7] at hc
          simp only [Option.some.injEq, Out.run.injEq] at h
          obtain ⟨rfl, rfl⟩ := h
          have hns : ∀ cs b, o.op ≠ .select cs b := fun cs b he => by have := hc.1.2; rw [he] at this; simp [isSel] at this
          exact ⟨o, rfl, guardOf_spec E hg, rfl, execOp_congr o hns fun x hx => E.eval (hc.2 x (Array.mem_toList_iff.2 hx)), hc.1.1, hns⟩
        · cases h
theorem opAt_skip {a : Act} {n i : Nat} {l : List (Nat × Value)} (E : Env a n l) {ops : Array Oper} {d : Option Tmp} (h : opAt ops n i l = some (.skip d)) :
    ∃ o, ops[i]? = some o ∧ Region.wanted o (yielded ops a.tmps) = false ∧ o.dst = d ∧ fits n d = true := by
  unfold opAt at h
  cases ho : ops[i]? with
  | none => simp [ho] at h
  | some o =>
    simp only [ho] at h
    cases hg : guardOf ops l o with
    | none => simp [hg] at h
    | some t =>
      cases t with
      | false =>
        simp only [hg] at h
        split at h
        · rename_i hc
          simp only [Option.some.injEq, Out.skip.injEq] at h
          subst h
          exact ⟨o, rfl, guardOf_spec E hg, rfl, hc⟩
        · cases h
      | true =>
        simp only [hg] at h
        split at h <;> simp at h
def From (P : Program) (ops : Array Oper) (Q : Exit → Act → World → Prop) (i : Nat) (a : Act) (w : World) : Prop :=
  wpOps P ops Q (List.range' i (ops.size - i)) a w
section
variable {P : Program} {ops : Array Oper} {Q : Exit → Act → World → Prop} {n i : Nat} {l : List (Nat × Value)} {a : Act} {w : World} {d : Option Tmp} {s : Sem Next}
theorem region_from {id : Nat} (h : From P ops Q 0 a w) : (Code.region id ops false).wp P Q a w :=
  wp_region (by rw [List.range_eq_range']; simpa [From] using h)
theorem from_end (hs : ops.size = i) (h : Q .normal a w) : From P ops Q i a w := by
  unfold From
  rw [hs, Nat.sub_self]
  exact h
theorem from_cons (hi : i < ops.size) (h : wpOp P ops Q i (From P ops Q (i + 1)) a w) : From P ops Q i a w := by
  unfold From
  rw [show ops.size - i = (ops.size - (i + 1)) + 1 by omega, List.range'_succ, wpOps_cons]
  exact h
theorem step_skip (E : Env a n l) (h : opAt ops n i l = some (.skip d)) (next : ∀ a', Env a' n (putl d undef l) → From P ops Q (i + 1) a' w) : From P ops Q i a w := by
  obtain ⟨o, ho, hw, rfl, hf⟩ := opAt_skip E h
  refine from_cons (Zx.1 ho).1 ?_
  simp only [wpOp, ho, hw, Bool.false_eq_true, if_false]
  exact next _ (E.put undef hf)
theorem step_run (E : Env a n l) (h : opAt ops n i l = some (.run d s)) {v : Value} {w' : World} (hr : s.run P w = .ok (.value v) w')
    (next : ∀ a', Env a' n (putl d v l) → From P ops Q (i + 1) a' w') : From P ops Q i a w := by
  obtain ⟨o, ho, hw, rfl, hs, hf, _⟩ := opAt_run E h
  refine from_cons (Zx.1 ho).1 ?_
  simp only [wpOp, ho, hw, if_true, Oper.wp, hs, hr, Oper.upon]
  exact .inl (next _ (E.put v hf))
theorem region_cut {c : Code} {F : Act → World → Prop} (h : c.wp P (fun e a w => e = .normal ∧ F a w) a w) (next : ∀ a' w', F a' w' → Q .normal a' w') : c.wp P Q a w :=
  wp_mono h fun e a w ⟨he, hf⟩ => by subst he; exact next a w hf
theorem draw_any {F : Act → World → Prop} {id : Nat} (hm : P.follows .mixedOrders = true) (m : Nat) (hs : ops.size = m)
    (h : wpAny P .any ops (fun e a w => e = .normal ∧ F a w) m (YE m false) a w.drew) :
    (Code.region id ops true).wp P (fun e a w => e = .normal ∧ F a w) a w := by
  subst hs
  exact wp_region_any hm h
theorem any_end {F : Act → World → Prop} {m : Nat} {listed : Array Bool} (hr : Region.ready .any ops listed = []) (h : F a w) : wpAny P .any ops (fun e a w => e = .normal ∧ F a w) m listed a w := by
  cases m with
  | zero => exact ⟨hr, rfl, h⟩
  | succ m => exact ⟨fun _ => ⟨rfl, h⟩, fun i hi => by rw [hr] at hi; cases hi⟩
theorem any_pure {F : Act → World → Prop} {m : Nat} {listed listed' : Array Bool} (E : Env a n l) {v : Value} (i : Nat)
    (hr : opAt ops n i l = some (.run d s)) (hv : (fun w => s.run P w) = fun w => .ok (.value v) w)
    (hc : (Region.noSelect ops && Region.free .any ops listed i && (Region.ready .any ops listed).contains i) = true) (hl : listed.setIfInBounds i true = listed')
    (next : ∀ a', Env a' n (putl d v l) → wpAny P .any ops (fun e a w => e = .normal ∧ F a w) m listed' a' w) :
    wpAny P .any ops (fun e a w => e = .normal ∧ F a w) (m + 1) listed a w := by
  obtain ⟨o, ho, hw, rfl, hs, hf, _⟩ := opAt_run E hr
  simp only [zJ, Zl] at hc
  subst hl
  exact wpAny_first ho (Region.noSelect_spec hc.1.1) (fun _ _ _ h => by cases h.1) m listed a w (Region.free_spec ho hc.1.2) hc.2
    (.inl ⟨hw, fun w => by rw [hs]; exact congrFun hv w⟩) (next _ (E.put v hf))
theorem any_skip {F : Act → World → Prop} {m : Nat} {listed listed' : Array Bool} (E : Env a n l) (i : Nat)
    (hr : opAt ops n i l = some (.skip d))
    (hc : (Region.noSelect ops && Region.free .any ops listed i && (Region.ready .any ops listed).contains i) = true) (hl : listed.setIfInBounds i true = listed')
    (next : ∀ a', Env a' n (putl d undef l) → wpAny P .any ops (fun e a w => e = .normal ∧ F a w) m listed' a' w) :
    wpAny P .any ops (fun e a w => e = .normal ∧ F a w) (m + 1) listed a w := by
  obtain ⟨o, ho, hw, rfl, hf⟩ := opAt_skip E hr
  simp only [zJ, Zl] at hc
  subst hl
  exact wpAny_first ho (Region.noSelect_spec hc.1.1) (fun _ _ _ h => by cases h.1) m listed a w (Region.free_spec ho hc.1.2) hc.2
    (.inr ⟨hw, rfl⟩) (next _ (E.put undef hf))
theorem any_of {m : Nat} {listed : Array Bool} (is : List Nat) (hr : Region.ready .any ops listed = is) (hne : is.isEmpty = false)
    (h : ∀ i ∈ is, wpOp P ops Q i (wpAny P .any ops Q m (listed.setIfInBounds i true)) a w) : wpAny P .any ops Q (m + 1) listed a w := by
  subst hr
  exact ⟨fun h0 => (by rw [h0] at hne; cases hne), h⟩
theorem any_run {K : Act → World → Prop} (E : Env a n l) (h : opAt ops n i l = some (.run d s)) {v : Value} {w' : World} (hr : s.run P w = .ok (.value v) w')
    (next : ∀ a', Env a' n (putl d v l) → K a' w') : wpOp P ops Q i K a w := by
  obtain ⟨o, ho, hw, rfl, hs, hf, _⟩ := opAt_run E h
  simp only [wpOp, ho, hw, if_true, Oper.wp, hs, hr, Oper.upon]
  exact .inl (next _ (E.put v hf))
theorem any_unit {K : Act → World → Prop} (E : Env a n l) (h : opAt ops n i l = some (.run d s)) {w' : World} (hr : s.run P w = .ok .skip w')
    (next : ∀ a', Env a' n (putl d undef l) → K a' w') : wpOp P ops Q i K a w := by
  obtain ⟨o, ho, hw, rfl, hs, hf, _⟩ := opAt_run E h
  simp only [wpOp, ho, hw, if_true, Oper.wp, hs, hr, Oper.upon]
  exact .inl (next _ (E.put undef hf))
theorem any_call {K : Act → World → Prop} (E : Env a n l) (h : opAt ops n i l = some (.run d s)) {f : FuncId} {args : Array Value} {w' : World} (hr : s.run P w = .ok (.enter f args) w')
    (hc : Calls P f args w' fun e w'' => ∃ v, e = .returned v ∧ ∀ a', Env a' n (putl d v l) → K a' w'') : wpOp P ops Q i K a w := by
  obtain ⟨o, ho, hw, rfl, hs, hf, _⟩ := opAt_run E h
  simp only [wpOp, ho, hw, if_true, Oper.wp, hs, hr, Oper.upon]
  refine .inl (hc.mono fun e w'' he => ?_)
  obtain ⟨v, rfl, hn⟩ := he
  exact hn _ (E.put v hf)
end
section
variable {P : Program} {Q : Exit → Act → World → Prop} {n : Nat} {l : List (Nat × Value)} {a : Act} {w : World}
theorem then_normal {next : Act → World → Prop} (h : next a w) : Exit.then next Q .normal a w := h
theorem then_exit {next : Act → World → Prop} {id : Nat} (h : Q (.exit id) a w) : Exit.then next Q (.exit id) a w := h
theorem then_ret {next : Act → World → Prop} (h : Q .ret a w) : Exit.then next Q .ret a w := h
theorem block_normal {id : Nat} (h : Q .normal a w) : Exit.inBlock id Q .normal a w := h
theorem block_exit {id : Nat} (h : Q .normal a w) : Exit.inBlock id Q (.exit id) a w := by simpa [Exit.inBlock] using h
theorem block_ret {id : Nat} (h : Q .ret a w) : Exit.inBlock id Q .ret a w := h
theorem cond_at {c : Nat} {x y : Code} {t : Bool} (E : Env a n l) (hc : look l c = some (.bool t)) (ht : t = true → x.wp P Q a w) (hf : t = false → y.wp P Q a w) : (Code.cond (.tmp c) x y).wp P Q a w :=
  wp_cond_split (E.getD hc) ht hf
theorem cond_true {c : Nat} {x y : Code} {t : Bool} (E : Env a n l) (hc : look l c = some (.bool t)) (ht : t = true) (h : x.wp P Q a w) : (Code.cond (.tmp c) x y).wp P Q a w :=
  cond_at E hc (fun _ => h) (fun e => by rw [ht] at e; cases e)
theorem cond_false {c : Nat} {x y : Code} {t : Bool} (E : Env a n l) (hc : look l c = some (.bool t)) (ht : t = false) (h : y.wp P Q a w) : (Code.cond (.tmp c) x y).wp P Q a w :=
  cond_at E hc (fun e => by rw [ht] at e; cases e) (fun _ => h)
theorem d_ret1 {fn : Func} {R : Ending → World → Prop} (E : Env a n l) {t : Nat} {v : Value} (hr : fn.results = #[.tmp t]) (hv : look l t = some v) (h : R (.returned v) w) : bodyPost P fn R .ret a w :=
  bodyPost_ret (by rw [results_tmp hr, E.getD hv]) E.defers h
theorem d_ret2 {fn : Func} {R : Ending → World → Prop} (E : Env a n l) {t u : Nat} {v x : Value} (hr : fn.results = #[.tmp t, .tmp u]) (hv : look l t = some v) (hx : look l u = some x) (h : R (.returned (.tuple #[v, x])) w) : bodyPost P fn R .ret a w :=
  bodyPost_ret (by rw [results_tmp2 hr, E.getD hv, E.getD hx]) E.defers h
theorem Env.getQ {a : Act} {n : Nat} {l : List (Nat × Value)} (E : Env a n l) {t : Nat} {v : Value} (h : look l t = some v) : a.tmps[t]?.getD undef = v := by
  have := E.getD h
  simpa using this
theorem d_cell1 {fn : Func} {R : Ending → World → Prop} (E : Env a n l) {t : Nat} {T : TypeId} {ad : Addr} {v : Value} (hr : fn.results = #[.cell t T]) (ht : look l t = some (.pointer (some ad))) (hv : (loadVar T ad).run P w = .ok v w) (h : R (.returned v) w) : bodyPost P fn R .ret a w := by
  refine bodyPost_ret (v := v) ?_ E.defers h
  simp [results, hr, E.getQ ht, asAddr, hv]
theorem d_cell_tmp {fn : Func} {R : Ending → World → Prop} (E : Env a n l) {t u : Nat} {T : TypeId} {ad : Addr} {v x : Value} (hr : fn.results = #[.cell t T, .tmp u]) (ht : look l t = some (.pointer (some ad))) (hv : (loadVar T ad).run P w = .ok v w) (hx : look l u = some x) (h : R (.returned (.tuple #[v, x])) w) : bodyPost P fn R .ret a w := by
  refine bodyPost_ret (v := .tuple #[v, x]) ?_ E.defers h
  simp [results, hr, E.getQ ht, E.getQ hx, asAddr, hv]
theorem d_start {f : FuncId} {fn : Func} {c : Code} {args : Array Value} {R : Ending → World → Prop} (l : List (Nat × Value)) (n : Nat) (hf : P.funcs[f]? = some fn) (hn : fn.ntmps = n) (hb : fn.body = some c)
    (hs : Kz args.size n = true) (hl : l.map (fun p => args[p.1]?) = l.map (fun p => some p.2))
    (h : ∀ a, Env a n l → c.wp P (bodyPost P fn R) a w) : Calls P f args w R :=
  calls_of_wp hf hb (by subst hn; exact h _ (Env.start (Jy hs) hl))
end
def nv (s : Sem Value) : Sem Next := do pure (.value (← s))
def nu (s : Sem Unit) : Sem Next := do s; pure .skip
theorem run_nv {P : Program} {s : Sem Value} {w w' : World} {v : Value} (h : s.run P w = .ok v w') : (nv s).run P w = .ok (.value v) w' := by
  simp [nv, h]
theorem run_nu {P : Program} {s : Sem Unit} {w w' : World} (h : s.run P w = .ok () w') : (nu s).run P w = .ok .skip w' := by
  simp [nu, h]
end Go.Dbr
namespace Go.Dbr
open Go Go.RowKit
inductive Ent where
  | box (b : Nat) (cs : List Value) (T : TypeId)
  | vec (a : Option Addr) (cap sz : Nat) (xs : List Value) (T : TypeId)
  | map (b : Nat) (kv : List (Value × Value))
  | grp (D : List (Option Addr × Nat × Nat × List Value × TypeId))
abbrev Inn := Option Addr × Nat × Nat × List Value × TypeId
def Inn.ent (d : Inn) : Ent := .vec d.1 d.2.1 d.2.2.1 d.2.2.2.1 d.2.2.2.2
def Ent.blk : Ent → Option Nat
  | .box b _ _ => some b
  | .vec a _ _ _ _ => a.map (·.block)
  | .map b _ => some b
  | .grp _ => none
def Ent.own (e : Ent) (c : Nat) : Prop :=
  match e with
  | .grp D => ∃ d : Inn, d ∈ D ∧ d.ent.blk = some c
  | .box b _ _ => some b = some c
  | .vec a _ _ _ _ => a.map (·.block) = some c
  | .map b _ => some b = some c
def FzOk (n : Nat) (fz : Nat × Nat) : Prop := fz = (0, 0) ∨ n ≤ fz.1
theorem frozen_fz {w : World} {g j : Nat} {cur : Array Value} {t : TypeId} {fz : Nat × Nat} (hg : w.heap[g]? = some (.cells cur t fz)) (hf : FzOk cur.size fz) (hj : j < cur.size) : w.frozen? ⟨g, j, none⟩ = false := by
  obtain ⟨lo, hi⟩ := fz
  rcases hf with h | h
  · simp only [Prod.mk.injEq] at h
    obtain ⟨rfl, rfl⟩ := h
    exact frozen_of_row w g j cur t hg
  · simp only at h
    simp [World.frozen?, hg]
    omega
theorem heap_setCell_fz {w : World} {g i : Nat} {cur : Array Value} {t : TypeId} {fz : Nat × Nat} (v : Value) (hg : w.heap[g]? = some (.cells cur t fz)) : (w.setCell ⟨g, i, none⟩ v).heap[g]? = some (.cells (cur.setIfInBounds i v) t fz) := by
  rw [setCell_eq_setRow w g i cur t fz v hg]
  exact setRow_heap w g cur _ t fz hg
theorem run_storeCells_fz {P : Program} (g o : Nat) (t : TypeId) (fz : Nat × Nat) : ∀ (vs : List Value) (i : Nat) (cur : Array Value) (w : World), w.heap[g]? = some (.cells cur t fz) → FzOk cur.size fz → o + i + vs.length ≤ cur.size → (∀ v ∈ vs, v.oneCell' = true) →
    (storeCells ⟨g, o, none⟩ vs i).run P w = .ok () (w.setRow g (cur.toList.take (o + i) ++ vs ++ cur.toList.drop (o + i + vs.length)).toArray)
  | [], i, cur, w, hg, _, _, _ => by
    simp only [storeCells, JP, List.length_nil, ZP, YN, JJ]
    rw [setRow_self w g cur t fz hg]
    rfl
  | v :: r, i, cur, w, hg, hf, hl, h1 => by
    have hi : o + i < cur.size := by simp only [zL] at hl; omega
    have hadd : (⟨g, o, none⟩ : Addr).add i = ⟨g, o + i, none⟩ := by unfold Addr.add; split <;> simp_all
    have hcell : w.cell? ⟨g, o + i, none⟩ = some cur[o + i] := by rw [cell_of_row w g _ cur t fz hg]; simp [hi]
    have hst : (store ((⟨g, o, none⟩ : Addr).add i) v).run P w = .ok () (w.setRow g (cur.setIfInBounds (o + i) v)) := by
      rw [hadd, run_store P w _ v _ (h1 v (by simp)), hcell]
      simp [frozen_fz hg hf hi, setCell_eq_setRow w g (o + i) cur t fz v hg]
    have ih := run_storeCells_fz (P := P) g o t fz r (i + 1) (cur.setIfInBounds (o + i) v) (w.setRow g (cur.setIfInBounds (o + i) v)) (setRow_heap w g cur _ t fz hg) (by simpa using hf) (by simp only [zL] at hl; simp; omega) (fun x hx => h1 x (by simp [hx]))
    simp only [storeCells, Sem.run_bind, hst, Result.andThen_ok, ih, setRow_setRow]
    have e := list_seg_step cur.toList (o + i) v r (by simp only [zL] at hl; simp; omega)
    simp only [Array.toList_setIfInBounds, zL, ← Nat.add_assoc] at e ⊢
    rw [e]
def Ent.holds0 (w : World) : Ent → Prop
  | .grp _ => True
  | .box b cs T => w.heap[b]? = some (.cells cs.toArray T (0, 0))
  | .map b kv => ∃ es clock, w.heap[b]? = some (.map es clock) ∧ es.toList.map (fun e => (e.key, e.val)) = kv ∧ MapKept.Stamped es clock
  | .vec none cap _ xs _ => cap = 0 ∧ xs = []
  | .vec (some ad) cap sz xs T => ad.spot = none ∧ cap ≤ maxLen ∧ xs.length ≤ cap * sz ∧
      ∃ (cur : Array Value) (fz : Nat × Nat), w.heap[ad.block]? = some (.cells cur T fz) ∧ FzOk cur.size fz ∧ ad.off + cap * sz ≤ cur.size ∧ ∀ j, j < xs.length → cur[ad.off + j]? = xs[j]?
def Ent.holds (w : World) (e : Ent) : Prop :=
  match e with
  | .grp D => ∀ d : Inn, d ∈ D → d.ent.holds0 w
  | .box b cs T => Ent.holds0 w (.box b cs T)
  | .vec a cap sz xs T => Ent.holds0 w (.vec a cap sz xs T)
  | .map b kv => Ent.holds0 w (.map b kv)
theorem Ent.holds0_congr {w w' : World} {e : Ent} (h : e.holds0 w) (hb : ∀ b, e.blk = some b → w'.heap[b]? = w.heap[b]?) : e.holds0 w' := by
  cases e with
  | box b cs T => simp only [Ent.holds0] at h ⊢; rw [hb b rfl]; exact h
  | map b kv => simp only [Ent.holds0] at h ⊢; rw [hb b rfl]; exact h
  | grp D => trivial
  | vec a cap sz xs T =>
    cases a with
    | none => exact h
    | some ad =>
      obtain ⟨h1, h2, h3, cur, fz, h4, h5⟩ := h
      exact ⟨h1, h2, h3, cur, fz, by rw [hb ad.block rfl]; exact h4, h5⟩
theorem Ent.holds_congr {w w' : World} {e : Ent} (h : e.holds w) (hb : ∀ b, e.own b → w'.heap[b]? = w.heap[b]?) : e.holds w' := by
  cases e with
  | box b cs T => exact Ent.holds0_congr (e := .box b cs T) h hb
  | map b kv => exact Ent.holds0_congr (e := .map b kv) h hb
  | vec a cap sz xs T => exact Ent.holds0_congr (e := .vec a cap sz xs T) h hb
  | grp D => exact fun d hd => Ent.holds0_congr (h d hd) fun b hb' => hb b ⟨d, hd, hb'⟩
theorem lt_of_block {w : World} {b : Nat} {o : Obj} (h : w.heap[b]? = some o) : b < w.heap.size := (Zx.1 h).1
theorem Ent.blk_lt0 {w : World} {e : Ent} (h : e.holds0 w) {b : Nat} (hb : e.blk = some b) : b < w.heap.size := by
  cases e with
  | box c cs T => simp only [Ent.blk, Option.some.injEq] at hb; subst hb; exact lt_of_block h
  | map c kv => simp only [Ent.blk, Option.some.injEq] at hb; subst hb; obtain ⟨es, clock, h1, _⟩ := h; exact lt_of_block h1
  | grp D => cases hb
  | vec a cap sz xs T =>
    cases a with
    | none => cases hb
    | some ad =>
      obtain ⟨_, _, _, cur, fz, h4, _⟩ := h
      simp only [Ent.blk, Q1, Option.some.injEq] at hb
      subst hb
      exact lt_of_block h4
theorem Ent.blk_lt {w : World} {e : Ent} (h : e.holds w) {b : Nat} (hb : e.own b) : b < w.heap.size := by
  cases e with
  | box c cs T => exact Ent.blk_lt0 (e := .box c cs T) h hb
  | map c kv => exact Ent.blk_lt0 (e := .map c kv) h hb
  | vec a cap sz xs T => exact Ent.blk_lt0 (e := .vec a cap sz xs T) h hb
  | grp D => obtain ⟨d, hd, hb⟩ := hb; exact Ent.blk_lt0 (h d hd) hb
structure Heap (w : World) (L : List Ent) : Prop where
  sep : ∀ (i j : Nat) (e f : Ent) (b : Nat), L[i]? = some e → L[j]? = some f → e.own b → f.own b → i = j
  holds : ∀ (i : Nat) (e : Ent), L[i]? = some e → e.holds w
def Owns (L : List Ent) (b : Nat) : Prop := ∃ (i : Nat) (e : Ent), L[i]? = some e ∧ e.own b
structure Chg (S : Nat → Prop) (w w' : World) : Prop where
  os : w'.os = w.os
  tape : w'.tape = w.tape
  output : w'.output = w.output
  size : w.heap.size ≤ w'.heap.size
  block : ∀ k, k < w.heap.size → ¬ S k → w'.heap[k]? = w.heap[k]?
structure Ev (w : World) (L : List Ent) (w' : World) (L' : List Ent) : Prop where
  heap : Heap w' L'
  chg : Chg (Owns L) w w'
  new : ∀ b, Owns L' b → Owns L b ∨ w.heap.size ≤ b
theorem Heap.lt {w : World} {L : List Ent} (h : Heap w L) {b : Nat} (hb : Owns L b) : b < w.heap.size := by
  obtain ⟨i, e, hi, he⟩ := hb
  exact Ent.blk_lt (h.holds i e hi) he
theorem Chg.refl (S : Nat → Prop) (w : World) : Chg S w w := ⟨rfl, rfl, rfl, Qg _, fun _ _ _ => rfl⟩
theorem Ev.refl {w : World} {L : List Ent} (h : Heap w L) : Ev w L w L := ⟨h, Chg.refl _ _, fun _ h => .inl h⟩
theorem Ev.trans {w w1 w2 : World} {L L1 L2 : List Ent} (h : Ev w L w1 L1) (k : Ev w1 L1 w2 L2) : Ev w L w2 L2 := by
  refine ⟨k.heap, ⟨k.chg.os.trans h.chg.os, k.chg.tape.trans h.chg.tape, k.chg.output.trans h.chg.output, Jp h.chg.size k.chg.size, fun b hb hn => ?_⟩, fun b hb => ?_⟩
  · have h1 : ¬ Owns L1 b := fun ho => (h.new b ho).elim hn (fun hge => by omega)
    rw [k.chg.block b (Nat.lt_of_lt_of_le hb h.chg.size) h1, h.chg.block b hb hn]
  · rcases k.new b hb with ho | hge
    · exact h.new b ho
    · exact .inr (Jp h.chg.size hge)
theorem Owns.nil {b : Nat} : ¬ Owns [] b := fun ⟨i, e, hi, _⟩ => by simp at hi
theorem Heap.nil (w : World) : Heap w [] := ⟨fun i j e f b hi => by simp at hi, fun i e hi => by simp at hi⟩
theorem Heap.pick {w : World} {L : List Ent} (h : Heap w L) (is : List Nat) {M : List Ent} (hm : M.map some = is.map (fun i => L[i]?)) (nd : is.Nodup) : Heap w M := by
  have key : ∀ (j : Nat) (e : Ent), M[j]? = some e → ∃ i : Nat, is[j]? = some i ∧ L[i]? = some e := by
    intro j e hj
    have h1 : (M.map some)[j]? = some (some e) := by simp [hj]
    rw [hm, Yh] at h1
    cases hi : is[j]? with
    | none => simp [hi] at h1
    | some i => exact ⟨i, rfl, by simpa [hi] using h1⟩
  refine ⟨fun i j e f b hi hj he hf => ?_, fun i e hi => ?_⟩
  · obtain ⟨p, hp, hp'⟩ := key i e hi
    obtain ⟨q, hq, hq'⟩ := key j f hj
    have hpq := h.sep p q e f b hp' hq' he hf
    subst hpq
    obtain ⟨h1, h1'⟩ := Zr.1 hp
    obtain ⟨h2, h2'⟩ := Zr.1 hq
    exact (List.getElem_inj nd).1 (h1'.trans h2'.symm)
  · obtain ⟨p, _, hp'⟩ := key i e hi
    exact h.holds p e hp'
theorem owns_pick {L : List Ent} {is : List Nat} {M : List Ent} (hm : M.map some = is.map (fun i => L[i]?)) {b : Nat} (h : Owns M b) : Owns L b := by
  obtain ⟨j, e, hj, he⟩ := h
  have h1 : (M.map some)[j]? = some (some e) := by simp [hj]
  rw [hm, Yh] at h1
  cases hi : is[j]? with
  | none => simp [hi] at h1
  | some i => exact ⟨i, e, by simpa [hi] using h1, he⟩
theorem Ev.pick {w w' : World} {L L' : List Ent} (h : Ev w L w' L') (is : List Nat) {M : List Ent} (hm : M.map some = is.map (fun i => L'[i]?)) (nd : is.Nodup) : Ev w L w' M :=
  ⟨h.heap.pick is hm nd, h.chg, fun b hb => h.new b (owns_pick hm hb)⟩
theorem owns_append {L R : List Ent} {b : Nat} : Owns (L ++ R) b ↔ Owns L b ∨ Owns R b := by
  constructor
  · rintro ⟨i, e, hi, he⟩
    by_cases hl : i < L.length
    · rw [zY hl] at hi; exact .inl ⟨i, e, hi, he⟩
    · rw [Ze (by omega)] at hi; exact .inr ⟨_, e, hi, he⟩
  · rintro (⟨i, e, hi, he⟩ | ⟨i, e, hi, he⟩)
    · exact ⟨i, e, by rw [zY (Zr.1 hi).1]; exact hi, he⟩
    · exact ⟨L.length + i, e, by rw [Ze (by omega)]; simpa using hi, he⟩
theorem Heap.append {w : World} {L R : List Ent} (hl : Heap w L) (hr : Heap w R) (hd : ∀ b, Owns L b → Owns R b → False) : Heap w (L ++ R) := by
  refine ⟨fun i j e f b hi hj he hf => ?_, fun i e hi => ?_⟩
  · by_cases h1 : i < L.length <;> by_cases h2 : j < L.length
    · rw [zY h1] at hi; rw [zY h2] at hj; exact hl.sep i j e f b hi hj he hf
    · rw [zY h1] at hi; rw [Ze (by omega)] at hj; exact (hd b ⟨_, _, hi, he⟩ ⟨_, _, hj, hf⟩).elim
    · rw [Ze (by omega)] at hi; rw [zY h2] at hj; exact (hd b ⟨_, _, hj, hf⟩ ⟨_, _, hi, he⟩).elim
    · rw [Ze (by omega)] at hi hj; have := hr.sep _ _ e f b hi hj he hf; omega
  · by_cases h1 : i < L.length
    · rw [zY h1] at hi; exact hl.holds i e hi
    · rw [Ze (by omega)] at hi; exact hr.holds _ e hi
theorem Heap.right {w : World} {L R : List Ent} (h : Heap w (L ++ R)) : Heap w R := by
  have up : ∀ (i : Nat) (e : Ent), R[i]? = some e → (L ++ R)[L.length + i]? = some e := fun i e hi => by rw [Ze (by omega)]; simpa using hi
  refine ⟨fun i j e f b hi hj he hf => ?_, fun i e hi => h.holds _ e (up i e hi)⟩
  have := h.sep _ _ e f b (up i e hi) (up j f hj) he hf
  omega
theorem Heap.apart {w : World} {L R : List Ent} (h : Heap w (L ++ R)) {b : Nat} (hl : Owns L b) (hr : Owns R b) : False := by
  obtain ⟨i, e, hi, he⟩ := hl
  obtain ⟨j, f, hj, hf⟩ := hr
  have hlt := (Zr.1 hi).1
  have := h.sep i (L.length + j) e f b (by rw [zY hlt]; exact hi) (by rw [Ze (by omega)]; simpa using hj) he hf
  omega
theorem Ev.frame {w w' : World} {L L' R : List Ent} (h : Heap w (L ++ R)) (e : Ev w L w' L') : Ev w (L ++ R) w' (L' ++ R) := by
  have hr := h.right
  have hR : Heap w' R := ⟨hr.sep, fun i f hi => Ent.holds_congr (hr.holds i f hi) fun b hb =>
    e.chg.block b (Ent.blk_lt (hr.holds i f hi) hb) fun ho => h.apart ho ⟨i, f, hi, hb⟩⟩
  refine ⟨e.heap.append hR fun b hb hb' => ?_, ⟨e.chg.os, e.chg.tape, e.chg.output, e.chg.size, fun k hk hn => e.chg.block k hk fun ho => hn (owns_append.2 (.inl ho))⟩, fun b hb => ?_⟩
  · rcases e.new b hb with ho | hge
    · exact h.apart ho hb'
    · have := hr.lt hb'; omega
  · rcases owns_append.1 hb with ho | ho
    · exact (e.new b ho).imp (fun h => owns_append.2 (.inl h)) id
    · exact .inl (owns_append.2 (.inr ho))
theorem Ev.call {w w' : World} {L M R M' : List Ent} (h : Heap w L) (is : List Nat) (hm : (M ++ R).map some = is.map (fun i => L[i]?)) (nd : is.Nodup) (e : Ev w M w' M') : Ev w L w' (M' ++ R) := by
  have h1 : Heap w (M ++ R) := h.pick is hm nd
  have h2 := Ev.frame h1 e
  exact ⟨h2.heap, ⟨h2.chg.os, h2.chg.tape, h2.chg.output, h2.chg.size, fun k hk hn => h2.chg.block k hk fun ho => hn (owns_pick hm ho)⟩, fun b hb => (h2.new b hb).imp (owns_pick hm) id⟩
theorem Ev.change {w w' : World} {L : List Ent} (h : Heap w L) {k : Nat} {e e' : Ent} (hk : L[k]? = some e) (hc : Chg (fun b => e.own b) w w') (he : e'.holds w')
    (hb : ∀ b, e'.own b → e.own b ∨ w.heap.size ≤ b) : Ev w L w' (L.set k e') := by
  have hkl := (Zr.1 hk).1
  have at_ : ∀ (i : Nat) (f : Ent), (L.set k e')[i]? = some f → (i = k ∧ f = e') ∨ (i ≠ k ∧ L[i]? = some f) := by
    intro i f hi
    by_cases hik : i = k
    · subst hik; rw [QE hkl] at hi; exact .inl ⟨rfl, by simpa using hi.symm⟩
    · rw [YT (Ne.symm hik)] at hi; exact .inr ⟨hik, hi⟩
  have other : ∀ (i : Nat) (f : Ent) (b : Nat), i ≠ k → L[i]? = some f → f.own b → e'.own b → False := by
    intro i f b hik hi hf he'
    rcases hb b he' with h1 | h1
    · exact hik (h.sep i k f e b hi hk hf h1)
    · have := Ent.blk_lt (h.holds i f hi) hf; omega
  refine ⟨⟨fun i j f g b hi hj hf hg => ?_, fun i f hi => ?_⟩, ⟨hc.os, hc.tape, hc.output, hc.size, fun b hb' hn => hc.block b hb' fun heb => hn ⟨k, e, hk, heb⟩⟩, fun b ho => ?_⟩
  · rcases at_ i f hi with ⟨rfl, rfl⟩ | ⟨h1, h1'⟩ <;> rcases at_ j g hj with ⟨rfl, rfl⟩ | ⟨h2, h2'⟩
    · rfl
    · exact (other j g b h2 h2' hg hf).elim
    · exact (other i f b h1 h1' hf hg).elim
    · exact h.sep i j f g b h1' h2' hf hg
  · rcases at_ i f hi with ⟨rfl, rfl⟩ | ⟨h1, h1'⟩
    · exact he
    · exact Ent.holds_congr (h.holds i f h1') fun b hb' => hc.block b (Ent.blk_lt (h.holds i f h1') hb') fun heb => h1 (h.sep i k f e b h1' hk hb' heb)
  · obtain ⟨i, f, hi, hf⟩ := ho
    rcases at_ i f hi with ⟨rfl, rfl⟩ | ⟨h1, h1'⟩
    · exact (hb b hf).imp (fun h => ⟨i, e, hk, h⟩) id
    · exact .inl ⟨i, f, h1', hf⟩
theorem Ev.add {w w' : World} {L : List Ent} (h : Heap w L) {e' : Ent} (hc : Chg (fun _ => False) w w') (he : e'.holds w') (hb : ∀ b, e'.own b → w.heap.size ≤ b) : Ev w L w' (L ++ [e']) := by
  have hL : Heap w' L := ⟨h.sep, fun i f hi => Ent.holds_congr (h.holds i f hi) fun b hb => hc.block b (Ent.blk_lt (h.holds i f hi) hb) id⟩
  have h1 : Heap w' [e'] := by
    have one : ∀ (i : Nat) (f : Ent), [e'][i]? = some f → i = 0 ∧ f = e' := fun i f hi => by
      cases i with
      | zero => exact ⟨rfl, by simpa using hi.symm⟩
      | succ i => simp at hi
    exact ⟨fun i j f g b hi hj _ _ => by rw [(one i f hi).1, (one j g hj).1], fun i f hi => by rw [(one i f hi).2]; exact he⟩
  have hown : ∀ b, Owns [e'] b → e'.own b := fun b ⟨i, f, hi, hf⟩ => by
    cases i with
    | zero => simp at hi; subst hi; exact hf
    | succ i => simp at hi
  refine ⟨hL.append h1 fun b ho ho' => ?_, ⟨hc.os, hc.tape, hc.output, hc.size, fun k hk _ => hc.block k hk id⟩, fun b ho => ?_⟩
  · have := h.lt ho; have := hb b (hown b ho'); omega
  · rcases owns_append.1 ho with ho | ho
    · exact .inl ho
    · exact .inr (hb b (hown b ho))
theorem Ev.same {w w' : World} {L : List Ent} (h : Heap w L) (hh : w'.heap = w.heap) (ho : w'.os = w.os) (ht : w'.tape = w.tape) (hu : w'.output = w.output) : Ev w L w' L :=
  ⟨⟨h.sep, fun i e hi => Ent.holds_congr (h.holds i e hi) fun b _ => by rw [hh]⟩, ⟨ho, ht, hu, by rw [hh]; exact Qg _, fun k _ _ => by rw [hh]⟩, fun b hb => .inl hb⟩
theorem Ev.drew {w : World} {L : List Ent} (h : Heap w L) : Ev w L w.drew L := Ev.same h rfl rfl rfl rfl
theorem chg_alloc (S : Nat → Prop) (w : World) (o : Obj) : Chg S w (w.alloc o) :=
  ⟨rfl, rfl, rfl, by simp, fun k hk _ => Below.heap_alloc w o k hk⟩
theorem chg_setCell {S : Nat → Prop} (w : World) (ad : Addr) (v : Value) (h : S ad.block) : Chg S w (w.setCell ad v) :=
  ⟨rfl, rfl, rfl, by simp, fun k _ hn => heap_setCell_other w ad k v fun e => hn (by rw [e]; exact h)⟩
def Reads (w : World) (a : Option Addr) (xs : List Value) : Prop :=
  match a with
  | none => xs = []
  | some ad => ∀ j u, xs[j]? = some u → w.cell? (ad.add j) = some u
theorem add_off {b o j : Nat} : (⟨b, o, none⟩ : Addr).add j = ⟨b, o + j, none⟩ := by
  unfold Addr.add
  split
  · rename_i h; subst h; rfl
  · rfl
theorem Reads.congr {w w' : World} {a : Option Addr} {xs : List Value} (h : Reads w a xs) (hb : ∀ ad, a = some ad → ad.block < w.heap.size → w'.heap[ad.block]? = w.heap[ad.block]?) : Reads w' a xs := by
  cases a with
  | none => exact h
  | some ad =>
    intro j u hj
    have h1 := h j u hj
    have hbl : (ad.add j).block = ad.block := by unfold Addr.add; split <;> rfl
    have hlt := World.block_lt_of_cell? _ _ h1
    rw [hbl] at hlt
    have h2 := hb ad rfl hlt
    rw [← h1]
    exact World.cell?_of_block (by rw [hbl]; exact h2)
structure Ro (w : World) (L : List Ent) (a : Option Addr) (xs : List Value) : Prop where
  reads : Reads w a xs
  off : ∀ ad, a = some ad → xs ≠ [] → ¬ Owns L ad.block
theorem Ro.ev {w w' : World} {L L' : List Ent} {a : Option Addr} {xs : List Value} (h : Ro w L a xs) (e : Ev w L w' L') : Ro w' L' a xs := by
  by_cases hx : xs = []
  · subst hx
    refine ⟨?_, fun _ _ h => (h rfl).elim⟩
    cases a with
    | none => rfl
    | some ad => intro j u hj; simp at hj
  · refine ⟨h.reads.congr fun ad ha hlt => e.chg.block _ hlt (h.off ad ha hx), fun ad ha _ ho => ?_⟩
    have hlt : ad.block < w.heap.size := by
      subst ha
      obtain ⟨x, r, rfl⟩ := List.exists_cons_of_ne_nil hx
      have h1 := h.reads 0 x rfl
      have hlt := World.block_lt_of_cell? _ _ h1
      have hbl : (ad.add 0).block = ad.block := by unfold Addr.add; split <;> rfl
      rwa [hbl] at hlt
    rcases e.new _ ho with h1 | h1
    · exact h.off ad ha hx h1
    · omega
theorem Ro.of {w : World} {L M : List Ent} {a : Option Addr} {xs : List Value} (h : Ro w L a xs) (hm : ∀ b, Owns M b → Owns L b) : Ro w M a xs :=
  ⟨h.reads, fun ad ha hx ho => h.off ad ha hx (hm _ ho)⟩
theorem Ro.pick {w : World} {L M : List Ent} {a : Option Addr} {xs : List Value} (h : Ro w L a xs) (is : List Nat) (hm : M.map some = is.map (fun i => L[i]?)) : Ro w M a xs :=
  h.of fun _ ho => owns_pick hm ho
theorem Heap.reads {w : World} {L : List Ent} (h : Heap w L) {k : Nat} {a : Option Addr} {cap sz : Nat} {xs : List Value} {T : TypeId} (hk : L[k]? = some (.vec a cap sz xs T)) : Reads w a xs := by
  have hh := h.holds k _ hk
  cases a with
  | none => exact hh.2
  | some ad =>
    obtain ⟨h1, _, _, cur, fz, h4, _, h5, h6⟩ := hh
    obtain ⟨b, o, sp⟩ := ad
    simp only at h1 h4 h6
    subst h1
    intro j u hj
    have hl := (Zr.1 hj).1
    rw [add_off, cell_of_row w b _ cur T fz h4, h6 j hl]
    exact hj
theorem Heap.ro {w : World} {L M : List Ent} (h : Heap w L) {k : Nat} {a : Option Addr} {cap sz : Nat} {xs : List Value} {T : TypeId} (hk : L[k]? = some (.vec a cap sz xs T))
    (is : List Nat) (hm : M.map some = is.map (fun i => L[i]?)) (hn : is.contains k = false) : Ro w M a xs := by
  refine ⟨h.reads hk, fun ad ha _ ho => ?_⟩
  obtain ⟨j, e, hj, he⟩ := ho
  have h1 : (M.map some)[j]? = some (some e) := by simp [hj]
  rw [hm, Yh] at h1
  cases hi : is[j]? with
  | none => simp [hi] at h1
  | some i =>
    have h2 : L[i]? = some e := by simpa [hi] using h1
    have := h.sep k i _ e ad.block hk h2 (by simp [Ent.own, ha]) he
    subst this
    have hmem : k ∈ is := List.mem_of_getElem? hi
    have := Zl.2 hmem
    rw [hn] at this
    cases this
section
variable {P : Program} {w : World} {L : List Ent}
theorem Heap.cell {k b off : Nat} {cs : List Value} {T : TypeId} {v : Value} (h : Heap w L) (hk : L[k]? = some (.box b cs T)) (hv : cs[off]? = some v) : w.cell? ⟨b, off, none⟩ = some v := by
  have hh : w.heap[b]? = some (.cells cs.toArray T (0, 0)) := h.holds k _ hk
  rw [cell_of_row w b off _ T (0, 0) hh]
  simpa using hv
theorem run_load1 {t : TypeId} {ad : Addr} {v : Value} (ht : (fun w => (isAgg t).run P w) = fun w => .ok false w) (hc : w.cell? ad = some v) :
    (Instr.loadAt t (.pointer (some ad))).run P w = .ok v w := by
  have h1 : (isAgg t).run P w = .ok false w := congrFun ht w
  simp [Instr.loadAt, Instr.sureAddr, loadVar, h1, hc]
theorem Heap.setBox {k b off : Nat} {cs : List Value} {T : TypeId} (v : Value) (h : Heap w L) (hk : L[k]? = some (.box b cs T)) : Ev w L (w.setCell ⟨b, off, none⟩ v) (L.set k (.box b (cs.set off v) T)) := by
  have hh : w.heap[b]? = some (.cells cs.toArray T (0, 0)) := h.holds k _ hk
  refine Ev.change h hk (chg_setCell w ⟨b, off, none⟩ v rfl) ?_ (fun c hc => .inl hc)
  show (w.setCell ⟨b, off, none⟩ v).heap[b]? = some (.cells (cs.set off v).toArray T (0, 0))
  rw [heap_setCell_same w b off cs.toArray T v hh]
  simp
theorem run_store1 {k b off : Nat} {cs : List Value} {T t : TypeId} {v old : Value} (hs : (fun w => (sizeOf t).run P w) = fun w => .ok 1 w) (h : Heap w L) (hk : L[k]? = some (.box b cs T))
    (ho : cs[off]? = some old) (hv : v.oneCell' = true) : (Instr.storeAt t (.pointer (some ⟨b, off, none⟩)) v).run P w = .ok () (w.setCell ⟨b, off, none⟩ v) := by
  have hh : w.heap[b]? = some (.cells cs.toArray T (0, 0)) := h.holds k _ hk
  have h1 : (sizeOf t).run P w = .ok 1 w := congrFun hs w
  have hc : v.cells = #[v] := by cases v <;> first | rfl | (simp [Value.oneCell'] at hv)
  have hcell := h.cell hk ho
  have hfr := frozen_of_row w b off cs.toArray T hh
  simp [Instr.storeAt, Instr.sureAddr, storeVar, hc, h1, storeCells, add_off, run_store P w _ v _ hv, hcell, hfr]
theorem Heap.newBox {T : TypeId} (cs : List Value) (h : Heap w L) : Ev w L (w.alloc (.cells cs.toArray T)) (L ++ [.box w.heap.size cs T]) :=
  Ev.add h (chg_alloc _ _ _) (heap_alloc_new w _) (fun b hb => by simp only [Ent.own, Option.some.injEq] at hb; omega)
theorem Heap.newVec {T : TypeId} {n sz : Nat} (xs : List Value) (hl : xs.length = n * sz) (hm : n ≤ maxLen) (h : Heap w L) : Ev w L (w.alloc (.cells xs.toArray T)) (L ++ [.vec (some ⟨w.heap.size, 0, none⟩) n sz xs T]) := by
  refine Ev.add h (chg_alloc _ _ _) ⟨rfl, hm, by omega, xs.toArray, (0, 0), heap_alloc_new w _, .inl rfl, by simp [hl], fun j hj => by simp⟩ (fun b hb => by simp only [Ent.own, Q1, Option.some.injEq] at hb; omega)
end
section
variable {P : Program} {w : World} {L : List Ent}
theorem Reads.src {size : Nat} {tx e' : TypeId} (hk : P.underlying tx = some (.slice e')) {a : Option Addr} {n c : Nat} {xs : List Value} (h : Reads w a xs) (hl : xs.length = n * size) (hn : a = none → n = 0) (h1 : ∀ u ∈ xs, u.oneCell' = true) :
    Src P size tx (.slice a n c) n xs w := by
  cases a with
  | none =>
    have := hn rfl
    subst this
    simp only [Reads] at h
    subst h
    exact ⟨.inl ⟨e', hk⟩, fun _ => rfl, run_firstCells_none w size 0 0 c, run_firstCells_none w.drew size 0 0 c, by simp, fun _ h => by cases h⟩
  | some ad => exact Src.ofSlice w hk ad n c xs hl h h1
theorem Heap.append1 {k : Nat} {a : Option Addr} {cap sz n m : Nat} {xs ys : List Value} {T t tx ty : TypeId} {x : Value} {i : TypeInfo} {z : Value} {bytes : Nat}
    (h : Heap w L) (hk : L[k]? = some (.vec a cap sz xs T)) (hn : xs.length = n * sz) (hs : Src P sz tx x m ys w)
    (ht : P.underlying t = some (.slice T)) (hi : P.info? T = some i) (hz : i.zero = some z) (hsz : i.size = sz) (hby : i.bytes = bytes) (hzs : z.cells.size = sz) (hpos : 0 < sz)
    (h63 : n + m ≤ maxLen) (hb : ((n + m) + (n + m) / 4 + 192) * bytes ≤ 281474976710656) :
    ∃ a' cap' w', (Builtin.append_ #[t, tx] ty #[.slice a n cap, x]).run P w = .ok (.slice a' (n + m) cap') w' ∧ Ev w L w' (L.set k (.vec a' cap' sz (xs ++ ys) T)) ∧ (a' = none → n + m = 0) ∧ n + m ≤ cap' := by
  subst hsz
  subst hby
  have hyl := hs.newsLen
  have hsmall : n + m ≤ 9223372036854775807 := by simp only [maxLen] at h63; omega
  have hh := h.holds k _ hk
  have hlen : (xs ++ ys).length = (n + m) * i.size := by rw [zE, hn, hyl, ZE]
  have grow : cap < n + m → (Builtin.firstCells i.size n (.slice a n cap)).run P w.drew = .ok xs.toArray w.drew →
      ∃ a' cap' w', (Builtin.append_ #[t, tx] ty #[.slice a n cap, x]).run P w = .ok (.slice a' (n + m) cap') w' ∧ Ev w L w' (L.set k (.vec a' cap' i.size (xs ++ ys) T)) ∧ (a' = none → n + m = 0) ∧ n + m ≤ cap' := by
    intro hg hold
    have hrun := run_append_grow_src (P := P) w t tx ty T i z ht hi hz a n cap xs hold x m ys hs hg (by omega) (growslice_fits_wide hg hb)
    have hge := grownCap_ge w (n + m) cap T
    have hcm := grownCap_le_maxLen w (n + m) cap T h63
    have hcap : (xs ++ ys).length ≤ grownCap w (n + m) cap T * i.size := by rw [hlen]; exact QW _ hge
    refine ⟨_, _, _, hrun, ?_, fun e => (by cases e), hge⟩
    refine Ev.change h hk ⟨rfl, rfl, rfl, by simp, fun b hb _ => Below.heap_alloc w.drew _ b hb⟩ ⟨rfl, hcm, hcap, _, (0, 0), heap_alloc_new w.drew _, .inl rfl, ?_, fun j hj => ?_⟩ (fun b hb => .inr ?_)
    · simp only [Yi]
      rw [Array.size_append, Xb, hlen, size_zeroCells, hzs, ← ZE]
      rw [show n + m + (grownCap w (n + m) cap T - (n + m)) = grownCap w (n + m) cap T by omega]
      exact Qg _
    · rw [Yi, J0 (by simpa using hj)]
      simp
    · simp only [Ent.own, Q1, Option.some.injEq] at hb
      have : w.drew.heap.size = w.heap.size := rfl
      omega
  cases a with
  | none =>
    obtain ⟨rfl, rfl⟩ := hh
    have hn0 : n = 0 := by
      rcases Jh n with h0 | h0
      · exact h0
      · have := Nat.mul_pos h0 hpos; simp at hn; omega
    subst hn0
    by_cases hm : m = 0
    · subst hm
      have hy : ys = [] := List.eq_nil_of_length_eq_zero (by simpa using hyl)
      subst hy
      refine ⟨none, 0, w, ?_, ?_, fun _ => rfl, Qg _⟩
      · rcases hs.kind with ⟨e', hk'⟩ | hk' <;> simp [Builtin.append_, run_underlying ht, run_underlying hk', sizeOf, typeInfo, hi, hs.len, hs.cells]
      · exact Ev.change h hk (Chg.refl _ _) ⟨rfl, rfl⟩ (fun b hb => by cases hb)
    · exact grow (by omega) (run_firstCells_none w.drew i.size 0 0 0)
  | some ad =>
    obtain ⟨h1, h2, h3, cur, fz, h4, hfz, h5, h6⟩ := hh
    obtain ⟨b, o, sp⟩ := ad
    simp only at h1 h4 h5 h6
    subst h1
    by_cases hfit : n + m ≤ cap
    · have hle : (n + m) * i.size ≤ cap * i.size := QW _ hfit
      have hle2 : n * i.size + m * i.size ≤ cap * i.size := by rw [← ZE]; exact hle
      have hf := hs.cells
      have hst := run_storeCells_fz (P := P) b (o + n * i.size) T fz ys 0 cur w h4 hfz (by omega) hs.one
      simp only [ZP] at hst
      refine ⟨some ⟨b, o, none⟩, cap, w.setRow b (cur.toList.take (o + n * i.size) ++ ys ++ cur.toList.drop (o + n * i.size + ys.length)).toArray, ?_, ?_, fun e => (by cases e), hfit⟩
      · rcases hs.kind with ⟨e', hk'⟩ | hk' <;> simp [Builtin.append_, run_underlying ht, run_underlying hk', sizeOf, typeInfo, hi, hs.len, hfit, hf, add_off, hst]
      · refine Ev.change h hk ⟨rfl, rfl, rfl, by simp, fun c hc hne => setRow_other w b c _ (fun e => hne (by simp [Ent.own, e]))⟩ ⟨rfl, h2, by rw [hlen]; exact hle, _, fz, setRow_heap w b cur _ T _ h4, ?_, ?_, fun j hj => ?_⟩ (fun c hc => .inl hc)
        · have e : (cur.toList.take (o + n * i.size) ++ ys ++ cur.toList.drop (o + n * i.size + ys.length)).toArray.size = cur.size := by
            simp only [Xb, zE, Zg, Yq, Yp]
            omega
          rw [e]; exact hfz
        · simp only [Xb, zE, Zg, Yq, Yp]
          omega
        · rw [hlen, ZE] at hj
          simp only [XK]
          by_cases hjx : j < xs.length
          · rw [Qo, zY (by simp only [Zg, Yp]; omega), QT, if_pos (by omega), Array.getElem?_toList, h6 j hjx, zY hjx]
          · have h7 : (cur.toList.take (o + n * i.size)).length = o + n * i.size := by simp only [Zg, Yp]; omega
            rw [Qo, Ze (by omega), h7, zY (by omega), Ze (by omega)]
            congr 1
            omega
    · refine grow (by omega) ?_
      refine run_firstCells_some w.drew i.size n ⟨b, o, none⟩ n cap xs hn fun j u hj => ?_
      have := h.reads hk j u hj
      simpa using this
end
end Go.Dbr
namespace Go.Dbr
open Go Go.RowKit
theorem loop_m {P : Program} {Q : Exit → Act → World → Prop} {a : Act} {w : World} {c : Code} (I : Nat → Act → World → Prop) (h0 : ∃ m, I m a w)
    (round : ∀ m a w, I m a w → c.wp P (Exit.then (fun a' w' => ∃ m', I m' a' w' ∧ m' < m) Q) a w) : (Code.loop c).wp P Q a w := by
  intro b k cs
  have key : ∀ m a w, I m a w → ∃ e a' w', Q e a' w' ∧ Arrives P (lone (b.at a (.code c :: .inLoop c :: k)) cs w) b k cs e a' w' := by
    intro m
    induction m using Nat.strongRecOn with
    | _ m ih =>
      intro a w hI
      obtain ⟨e, a₁, w₁, hq, harr⟩ := round m a w hI b (.inLoop c :: k) cs
      cases e with
      | normal =>
        obtain ⟨m', hI₁, hlt⟩ := hq
        obtain ⟨e₂, a₂, w₂, hq₂, harr₂⟩ := ih m' hlt a₁ w₁ hI₁
        exact ⟨e₂, a₂, w₂, hq₂, .of_steps (Steps.trans harr (.one step_inLoop)) harr₂⟩
      | exit id => exact ⟨_, a₁, w₁, hq, .pass (x := .inLoop c) rfl (fun _ _ => .inl (by simp)) harr⟩
      | goto l => exact ⟨_, a₁, w₁, hq, .pass (x := .inLoop c) rfl (fun _ _ => .inl (by simp)) harr⟩
      | ret => exact ⟨_, a₁, w₁, hq, .pass (x := .inLoop c) rfl (fun _ _ => .inl (by simp)) harr⟩
      | panic ch => exact ⟨_, a₁, w₁, hq, .pass (x := .inLoop c) rfl (fun _ _ => .inl (by simp)) harr⟩
      | outgrown => exact ⟨_, a₁, w₁, hq, .pass (x := .inLoop c) rfl (fun _ _ => .inl (by simp)) harr⟩
  obtain ⟨m, hm⟩ := h0
  obtain ⟨e, a', w', hq, harr⟩ := key m a w hm
  exact ⟨e, a', w', hq, .of_steps (.one step_loop) harr⟩
def InLoop (P : Program) (c : Code) (Q : Exit → Act → World → Prop) (a : Act) (w : World) : Prop :=
  ∀ b k cs, ∃ e a' w', Q e a' w' ∧ Arrives P (lone (b.at a (.code c :: .inLoop c :: k)) cs w) b k cs e a' w'
theorem loop_enter {P : Program} {Q : Exit → Act → World → Prop} {a : Act} {w : World} {c : Code} (h : InLoop P c Q a w) : (Code.loop c).wp P Q a w := by
  intro b k cs
  obtain ⟨e, a', w', hq, harr⟩ := h b k cs
  exact ⟨e, a', w', hq, .of_steps (.one step_loop) harr⟩
theorem loop_once {P : Program} {Q : Exit → Act → World → Prop} {a : Act} {w : World} {c : Code} (h : c.wp P (Exit.then (fun a' w' => InLoop P c Q a' w') Q) a w) : InLoop P c Q a w := by
  intro b k cs
  obtain ⟨e, a₁, w₁, hq, harr⟩ := h b (.inLoop c :: k) cs
  cases e with
  | normal =>
    obtain ⟨e₂, a₂, w₂, hq₂, harr₂⟩ := hq b k cs
    exact ⟨e₂, a₂, w₂, hq₂, .of_steps (Steps.trans harr (.one step_inLoop)) harr₂⟩
  | exit id => exact ⟨_, a₁, w₁, hq, .pass (x := .inLoop c) rfl (fun _ _ => .inl (by simp)) harr⟩
  | goto l => exact ⟨_, a₁, w₁, hq, .pass (x := .inLoop c) rfl (fun _ _ => .inl (by simp)) harr⟩
  | ret => exact ⟨_, a₁, w₁, hq, .pass (x := .inLoop c) rfl (fun _ _ => .inl (by simp)) harr⟩
  | panic ch => exact ⟨_, a₁, w₁, hq, .pass (x := .inLoop c) rfl (fun _ _ => .inl (by simp)) harr⟩
  | outgrown => exact ⟨_, a₁, w₁, hq, .pass (x := .inLoop c) rfl (fun _ _ => .inl (by simp)) harr⟩
section
variable {P : Program} {ops : Array Oper} {Q : Exit → Act → World → Prop} {n i : Nat} {l : List (Nat × Value)} {a : Act} {w w0 : World} {d : Option Tmp} {s : Sem Next} {L L0 : List Ent} {K : Act → World → Prop}
theorem from_op (hi : Nat.blt i ops.size = true) (h : wpOp P ops Q i (From P ops Q (i + 1)) a w) : From P ops Q i a w := by
  have h1 : Kz (i + 1) ops.size = true := hi
  exact from_cons (Jy h1) h
theorem any_at {m : Nat} {listed listed' : Array Bool} (i : Nat) (hr : Region.ready .any ops listed = [i]) (hl : listed.setIfInBounds i true = listed')
    (h : wpOp P ops Q i (wpAny P .any ops Q m listed') a w) : wpAny P .any ops Q (m + 1) listed a w :=
  any_of [i] hr rfl fun j hj => by
    have : j = i := by simpa using hj
    subst this
    subst hl
    exact h
theorem any_two {m : Nat} {listed : Array Bool} (i j : Nat) (hr : Region.ready .any ops listed = [i, j])
    (hi : ∀ listed', listed.setIfInBounds i true = listed' → wpOp P ops Q i (wpAny P .any ops Q m listed') a w)
    (hj : ∀ listed', listed.setIfInBounds j true = listed' → wpOp P ops Q j (wpAny P .any ops Q m listed') a w) : wpAny P .any ops Q (m + 1) listed a w :=
  any_of [i, j] hr rfl fun k hk => by
    rcases Qt.1 hk with rfl | hk
    · exact hi _ rfl
    · have : k = j := by simpa using hk
      subst this
      exact hj _ rfl
def AllWays (f : Nat → Prop) : List Nat → Prop
  | [] => True
  | i :: r => f i ∧ AllWays f r
theorem AllWays.mem {f : Nat → Prop} : ∀ {l : List Nat}, AllWays f l → ∀ i ∈ l, f i
  | i :: r, h, j, hj => by
    rcases Qt.1 hj with rfl | hj
    · exact h.1
    · exact AllWays.mem h.2 j hj
theorem any_ways {m : Nat} {listed : Array Bool} (is : List Nat) (hr : Region.ready .any ops listed = is) (hn : is.isEmpty = false)
    (h : AllWays (fun i => ∀ listed', listed.setIfInBounds i true = listed' → wpOp P ops Q i (wpAny P .any ops Q m listed') a w) is) : wpAny P .any ops Q (m + 1) listed a w :=
  any_of is hr hn fun i hi => AllWays.mem h i hi _ rfl
theorem any_name {m : Nat} {listed : Array Bool} (h : ∀ G : Nat → Array Bool → Act → World → Prop, G = wpAny P .any ops Q → G m listed a w) : wpAny P .any ops Q m listed a w := h _ rfl
theorem any_from {G : Nat → Array Bool → Act → World → Prop} (hG : G = wpAny P .any ops Q) {m : Nat} {listed : Array Bool} (h : wpAny P .any ops Q m listed a w) : G m listed a w := hG ▸ h
theorem any_to {G : Nat → Array Bool → Act → World → Prop} (hG : G = wpAny P .any ops Q) {m : Nat} {listed listed' : Array Bool} (hl : listed = listed') (h : G m listed' a w) : wpAny P .any ops Q m listed a w := by subst hG hl; exact h
def opRuns (P : Program) (ops : Array Oper) (n i : Nat) (l : List (Nat × Value)) : Option (Option Tmp × (World → Result Next)) :=
  match opAt ops n i l with
  | some (.run d s) => some (d, fun w => s.run P w)
  | _ => none
theorem opRuns_spec {r : World → Result Next} (h : opRuns P ops n i l = some (d, r)) : ∃ s, opAt ops n i l = some (.run d s) ∧ ∀ w, s.run P w = r w := by
  unfold opRuns at h
  split at h
  · rename_i d' s' hs
    simp only [Option.some.injEq, Prod.mk.injEq] at h
    obtain ⟨rfl, rfl⟩ := h
    exact ⟨s', hs, fun _ => rfl⟩
  · cases h
theorem op_call (E : Env a n l) {f : FuncId} {args : Array Value} (h : opRuns P ops n i l = some (d, fun w => .ok (.enter f args) w))
    (hc : Calls P f args w fun e w'' => ∃ v, e = .returned v ∧ ∀ a', Env a' n (putl d v l) → K a' w'') : wpOp P ops Q i K a w := by
  obtain ⟨s, hs, hr⟩ := opRuns_spec h
  exact any_call E hs (hr w) hc
theorem op_val (E : Env a n l) {x : Sem Value} (h : opAt ops n i l = some (.run d (nv x))) {v : Value} (hr : x.run P w = .ok v w)
    (next : ∀ a', Env a' n (putl d v l) → K a' w) : wpOp P ops Q i K a w := any_run E h (run_nv hr) next
theorem op_load (E : Env a n l) {t : TypeId} {ad : Addr} (h : opAt ops n i l = some (.run d (nv (Instr.loadAt t (.pointer (some ad)))))) {v : Value} (hc : w.cell? ad = some v)
    (ht : (fun w => (isAgg t).run P w) = fun w => .ok false w) (next : ∀ a', Env a' n (putl d v l) → K a' w) : wpOp P ops Q i K a w :=
  op_val E h (run_load1 ht hc) next
theorem op_loadbox (E : Env a n l) {t : TypeId} {b off k : Nat} {cs : List Value} {T : TypeId} {v : Value} (h : opAt ops n i l = some (.run d (nv (Instr.loadAt t (.pointer (some ⟨b, off, none⟩))))))
    (H : Ev w0 L0 w L) (hk : L[k]? = some (.box b cs T)) (hv : cs[off]? = some v)
    (ht : (fun w => (isAgg t).run P w) = fun w => .ok false w) (next : ∀ a', Env a' n (putl d v l) → K a' w) : wpOp P ops Q i K a w :=
  op_load E h (H.heap.cell hk hv) ht next
theorem op_storebox (E : Env a n l) {t : TypeId} {b off k : Nat} {cs : List Value} {T : TypeId} {v old : Value} (h : opAt ops n i l = some (.run d (nu (Instr.storeAt t (.pointer (some ⟨b, off, none⟩)) v))))
    (H : Ev w0 L0 w L) (hk : L[k]? = some (.box b cs T)) (ho : cs[off]? = some old) (hs : (fun w => (sizeOf t).run P w) = fun w => .ok 1 w) (hv : v.oneCell' = true) {L' : List Ent} (hL : L.set k (.box b (cs.set off v) T) = L')
    (next : ∀ a' w', Env a' n (putl d undef l) → Ev w0 L0 w' L' → K a' w') : wpOp P ops Q i K a w := by
  subst hL
  exact any_unit E h (run_nu (run_store1 hs H.heap hk ho hv)) fun a' E' => next a' _ E' (H.trans (H.heap.setBox v hk))
theorem op_newbox (E : Env a n l) {T : TypeId} {v : Value} (h : opAt ops n i l = some (.run d (nv (Instr.box T v)))) {cs : List Value} (hc : v.cells.toList = cs) (H : Ev w0 L0 w L)
    (next : ∀ a' w' b, Env a' n (putl d (.pointer (some ⟨b, 0, none⟩)) l) → Ev w0 L0 w' (L ++ [.box b cs T]) → K a' w') : wpOp P ops Q i K a w := by
  subst hc
  refine any_run E h (run_nv (w' := w.alloc (.cells v.cells T)) (v := .pointer (some ⟨w.heap.size, 0, none⟩)) (by simp [Instr.box, newVar, newRow])) fun a' E' => next a' _ _ E' (H.trans ?_)
  have := H.heap.newBox (T := T) v.cells.toList
  rwa [JJ] at this
theorem op_alloc (E : Env a n l) {T : TypeId} {x : Value} (h : opAt ops n i l = some (.run d (nv (Instr.alloc T true x)))) {z : Value} {cs : List Value} (hz : (fun w => (zeroValue T).run P w) = fun w => .ok z w) (hc : z.cells.toList = cs) (H : Ev w0 L0 w L)
    (next : ∀ a' w' b, Env a' n (putl d (.pointer (some ⟨b, 0, none⟩)) l) → Ev w0 L0 w' (L ++ [.box b cs T]) → K a' w') : wpOp P ops Q i K a w := by
  subst hc
  have hz' : (zeroValue T).run P w = .ok z w := congrFun hz w
  refine any_run E h (run_nv (w' := w.alloc (.cells z.cells T)) (v := .pointer (some ⟨w.heap.size, 0, none⟩)) ?_) fun a' E' => next a' _ _ E' (H.trans ?_)
  · simp [Instr.alloc, hz', newVar, newRow]
  · have := H.heap.newBox (T := T) z.cells.toList
    rwa [JJ] at this
theorem op_lit (E : Env a n l) {t T : TypeId} {m : Nat} {parts : Array (Nat × Value)} (h : opAt ops n i l = some (.run d (nv (Instr.buildSlice t m parts)))) {xs : List Value} {sz : Nat}
    (hr : (fun w => (Instr.buildSlice t m parts).run P w) = fun w => .ok (.slice (some ⟨w.heap.size, 0, none⟩) m m) (w.alloc (.cells xs.toArray T))) (hl : xs.length = m * sz) (hm : m ≤ maxLen) (H : Ev w0 L0 w L)
    (next : ∀ a' w' b, Env a' n (putl d (.slice (some ⟨b, 0, none⟩) m m) l) → Ev w0 L0 w' (L ++ [.vec (some ⟨b, 0, none⟩) m sz xs T]) → K a' w') : wpOp P ops Q i K a w :=
  any_run E h (run_nv (congrFun hr w)) fun a' E' => next a' _ _ E' (H.trans (H.heap.newVec xs hl hm))
theorem Ev.nil {sz : Nat} {T : TypeId} (H : Ev w0 L0 w L) : Ev w0 L0 w (L ++ [.vec none 0 sz [] T]) :=
  H.trans (Ev.add H.heap (Chg.refl _ _) ⟨rfl, rfl⟩ (fun b hb => by cases hb))
def appendOf (t tx ty : TypeId) (x y : Value) : Sem Next := nv (Builtin.append_ #[t, tx] ty #[x, y])
theorem op_append (E : Env a n l) {t tx ty T : TypeId} {k : Nat} {ao : Option Addr} {cap sz p m : Nat} {xs ys : List Value} {x : Value} {z : Value} {bytes : Nat}
    (h : opAt ops n i l = some (.run d (appendOf t tx ty (.slice ao p cap) x))) (H : Ev w0 L0 w L) (hk : L[k]? = some (.vec ao cap sz xs T)) (hn : xs.length = p * sz) (hs : Src P sz tx x m ys w)
    (ht : P.underlying t = some (.slice T)) (hti : (P.info? T).map (fun i => (i.zero, i.size, i.bytes)) = some (some z, sz, bytes)) (hzs : z.cells.size = sz) (hpos : 0 < sz)
    (hb : ((p + m) + (p + m) / 4 + 192) * bytes ≤ 281474976710656) (h63 : p + m ≤ maxLen)
    (next : ∀ a' w' ao' cap', Env a' n (putl d (.slice ao' (p + m) cap') l) → Ev w0 L0 w' (L.set k (.vec ao' cap' sz (xs ++ ys) T)) → (ao' = none → p + m = 0) → p + m ≤ cap' → K a' w') : wpOp P ops Q i K a w := by
  obtain ⟨ti, hi, hz, hsz, hby⟩ : ∃ ti, P.info? T = some ti ∧ ti.zero = some z ∧ ti.size = sz ∧ ti.bytes = bytes := by
    cases hi : P.info? T with
    | none => simp [hi] at hti
    | some ti => simp only [hi, Q1, Option.some.injEq, Prod.mk.injEq] at hti; exact ⟨ti, rfl, hti.1, hti.2.1, hti.2.2⟩
  obtain ⟨ao', cap', w', hr, he, h1, h2⟩ := H.heap.append1 hk hn hs ht hi hz hsz hby hzs hpos h63 hb
  exact any_run E h (run_nv hr) fun a' E' => next a' w' ao' cap' E' (H.trans he) h1 h2
set_option linter.unusedSimpArgs false in
end
section
variable {w w0 : World} {L L0 : List Ent}
end
end Go.Dbr
namespace Go.Dbr
open Go
theorem wr64 {e x : Int} (h : e = x) (h1 : -9223372036854775808 ≤ x) (h2 : x ≤ 9223372036854775807) : IntKind.wrap .i64 e = x := by
  subst h
  have e1 : ((2 : Int) ^ IntKind.bits .i64) = 18446744073709551616 := by decide
  have e2 : ((2 : Int) ^ (IntKind.bits .i64 - 1)) = 9223372036854775808 := by decide
  unfold IntKind.wrap
  rw [e1, e2]
  simp only [IntKind.signed, Bool.true_and, decide_eq_true_eq]
  split <;> omega
theorem wrap_u8 (n : Int) : IntKind.wrap .u8 n = n % 256 := by
  have e1 : ((2 : Int) ^ IntKind.bits .u8) = 256 := by decide
  unfold IntKind.wrap
  rw [e1]
  simp [IntKind.signed]
theorem u8_xor {a b : Int} {x y : UInt8} (ha : a = ((x.toNat : Nat) : Int)) (hb : b = ((y.toNat : Nat) : Int)) : IntKind.wrap .u8 (((zP (IntKind.bits .u8) a ^^^ zP (IntKind.bits .u8) b).toNat : Nat) : Int) = ((QN (x ^^^ y) : Nat) : Int) := by
  subst ha hb
  have ex : zP (IntKind.bits .u8) ((x.toNat : Nat) : Int) = x.toBitVec := by apply Zv; simp [IntKind.bits]
  have ey : zP (IntKind.bits .u8) ((y.toNat : Nat) : Int) = y.toBitVec := by apply Zv; simp [IntKind.bits]
  rw [ex, ey, wrap_u8]
  have h : (x.toBitVec ^^^ y.toBitVec).toNat = (QN (x ^^^ y)) := rfl
  have h2 : (((QN (x ^^^ y)) : Nat) : Int) % 256 = (((QN (x ^^^ y)) : Nat) : Int) := by have := (x ^^^ y).toNat_lt; omega
  exact (congrArg (fun n : Nat => (n : Int) % 256) h).trans h2
theorem u16_to_i64 {a : Int} {x : UInt16} (ha : a = ((x.toNat : Nat) : Int)) : IntKind.wrap .i64 a = (((UInt16.toNat x) : Nat) : Int) := by
  subst ha; exact wr64 rfl (by omega) (by have := x.toNat_lt; omega)
theorem wrap_u32 (n : Int) : IntKind.wrap .u32 n = n % 4294967296 := by
  have e1 : ((2 : Int) ^ IntKind.bits .u32) = 4294967296 := by decide
  unfold IntKind.wrap
  rw [e1]
  simp [IntKind.signed]
theorem u32_add {a b : Int} {x y : UInt32} (ha : a = ((x.toNat : Nat) : Int)) (hb : b = ((y.toNat : Nat) : Int)) : IntKind.wrap .u32 (a + b) = ((ZK (x + y) : Nat) : Int) := by
  subst ha hb; rw [wrap_u32, UInt32.toNat_add]; omega
theorem u32_shr {a : Int} {x : UInt32} {n : Nat} (ha : a = ((x.toNat : Nat) : Int)) (hn : n < 32) : Int.fdiv a (2 ^ n) = ((ZK (x >>> zH n) : Nat) : Int) := by
  subst ha
  have h1 : (zH n).toNat = n := by rw [XY]; omega
  rw [UInt32.toNat_shiftRight, h1, zQ hn, Z8]
  rw [YU _ (Kq (by decide)), Kg, JQ]
  rfl
theorem u32_shl {a : Int} {x : UInt32} {n : Nat} (ha : a = ((x.toNat : Nat) : Int)) (hn : n < 32) : IntKind.wrap .u32 (a * 2 ^ n) = ((ZK (x <<< zH n) : Nat) : Int) := by
  subst ha
  have h1 : (zH n).toNat = n := by rw [XY]; omega
  have h2 : ((x.toNat : Nat) : Int) * 2 ^ n = ((x.toNat * 2 ^ n : Nat) : Int) := by rw [YF, JQ]; rfl
  rw [UInt32.toNat_shiftLeft, h1, zQ hn, Ya, wrap_u32, h2]
  omega
theorem u32_and {a b : Int} {x y : UInt32} (ha : a = ((x.toNat : Nat) : Int)) (hb : b = ((y.toNat : Nat) : Int)) : IntKind.wrap .u32 (((zP (IntKind.bits .u32) a &&& zP (IntKind.bits .u32) b).toNat : Nat) : Int) = ((ZK (x &&& y) : Nat) : Int) := by
  subst ha hb
  have ex : zP (IntKind.bits .u32) ((x.toNat : Nat) : Int) = x.toBitVec := by apply Zv; simp [IntKind.bits]
  have ey : zP (IntKind.bits .u32) ((y.toNat : Nat) : Int) = y.toBitVec := by apply Zv; simp [IntKind.bits]
  rw [ex, ey, wrap_u32]
  have h : (x.toBitVec &&& y.toBitVec).toNat = (ZK (x &&& y)) := rfl
  have h2 : (((ZK (x &&& y)) : Nat) : Int) % 4294967296 = (((ZK (x &&& y)) : Nat) : Int) := by have := (x &&& y).toNat_lt; omega
  exact (congrArg (fun n : Nat => (n : Int) % 4294967296) h).trans h2
theorem u32_or {a b : Int} {x y : UInt32} (ha : a = ((x.toNat : Nat) : Int)) (hb : b = ((y.toNat : Nat) : Int)) : IntKind.wrap .u32 (((zP (IntKind.bits .u32) a ||| zP (IntKind.bits .u32) b).toNat : Nat) : Int) = ((ZK (x ||| y) : Nat) : Int) := by
  subst ha hb
  have ex : zP (IntKind.bits .u32) ((x.toNat : Nat) : Int) = x.toBitVec := by apply Zv; simp [IntKind.bits]
  have ey : zP (IntKind.bits .u32) ((y.toNat : Nat) : Int) = y.toBitVec := by apply Zv; simp [IntKind.bits]
  rw [ex, ey, wrap_u32]
  have h : (x.toBitVec ||| y.toBitVec).toNat = (ZK (x ||| y)) := rfl
  have h2 : (((ZK (x ||| y)) : Nat) : Int) % 4294967296 = (((ZK (x ||| y)) : Nat) : Int) := by have := (x ||| y).toNat_lt; omega
  exact (congrArg (fun n : Nat => (n : Int) % 4294967296) h).trans h2
theorem u32_xor {a b : Int} {x y : UInt32} (ha : a = ((x.toNat : Nat) : Int)) (hb : b = ((y.toNat : Nat) : Int)) : IntKind.wrap .u32 (((zP (IntKind.bits .u32) a ^^^ zP (IntKind.bits .u32) b).toNat : Nat) : Int) = ((ZK (x ^^^ y) : Nat) : Int) := by
  subst ha hb
  have ex : zP (IntKind.bits .u32) ((x.toNat : Nat) : Int) = x.toBitVec := by apply Zv; simp [IntKind.bits]
  have ey : zP (IntKind.bits .u32) ((y.toNat : Nat) : Int) = y.toBitVec := by apply Zv; simp [IntKind.bits]
  rw [ex, ey, wrap_u32]
  have h : (x.toBitVec ^^^ y.toBitVec).toNat = (ZK (x ^^^ y)) := rfl
  have h2 : (((ZK (x ^^^ y)) : Nat) : Int) % 4294967296 = (((ZK (x ^^^ y)) : Nat) : Int) := by have := (x ^^^ y).toNat_lt; omega
  exact (congrArg (fun n : Nat => (n : Int) % 4294967296) h).trans h2
theorem wrap_u64 (n : Int) : IntKind.wrap .u64 n = n % 18446744073709551616 := by
  have e1 : ((2 : Int) ^ IntKind.bits .u64) = 18446744073709551616 := by decide
  unfold IntKind.wrap
  rw [e1]
  simp [IntKind.signed]
theorem u64_add {a b : Int} {x y : UInt64} (ha : a = ((x.toNat : Nat) : Int)) (hb : b = ((y.toNat : Nat) : Int)) : IntKind.wrap .u64 (a + b) = ((zk (x + y) : Nat) : Int) := by
  subst ha hb; rw [wrap_u64, UInt64.toNat_add]; omega
theorem u64_mul {a b : Int} {x y : UInt64} (ha : a = ((x.toNat : Nat) : Int)) (hb : b = ((y.toNat : Nat) : Int)) : IntKind.wrap .u64 (a * b) = ((zk (x * y) : Nat) : Int) := by
  subst ha hb; rw [wrap_u64, UInt64.toNat_mul, ← YF]; omega
theorem u64_shr {a : Int} {x : UInt64} {n : Nat} (ha : a = ((x.toNat : Nat) : Int)) (hn : n < 64) : Int.fdiv a (2 ^ n) = ((zk (x >>> zi n) : Nat) : Int) := by
  subst ha
  have h1 : (zi n).toNat = n := by rw [Y8]; omega
  rw [UInt64.toNat_shiftRight, h1, zQ hn, Z8]
  rw [YU _ (Kq (by decide)), Kg, JQ]
  rfl
theorem u64_shl {a : Int} {x : UInt64} {n : Nat} (ha : a = ((x.toNat : Nat) : Int)) (hn : n < 64) : IntKind.wrap .u64 (a * 2 ^ n) = ((zk (x <<< zi n) : Nat) : Int) := by
  subst ha
  have h1 : (zi n).toNat = n := by rw [Y8]; omega
  have h2 : ((x.toNat : Nat) : Int) * 2 ^ n = ((x.toNat * 2 ^ n : Nat) : Int) := by rw [YF, JQ]; rfl
  rw [UInt64.toNat_shiftLeft, h1, zQ hn, Ya, wrap_u64, h2]
  omega
theorem u64_and {a b : Int} {x y : UInt64} (ha : a = ((x.toNat : Nat) : Int)) (hb : b = ((y.toNat : Nat) : Int)) : IntKind.wrap .u64 (((zP (IntKind.bits .u64) a &&& zP (IntKind.bits .u64) b).toNat : Nat) : Int) = ((zk (x &&& y) : Nat) : Int) := by
  subst ha hb
  have ex : zP (IntKind.bits .u64) ((x.toNat : Nat) : Int) = x.toBitVec := by apply Zv; simp [IntKind.bits]
  have ey : zP (IntKind.bits .u64) ((y.toNat : Nat) : Int) = y.toBitVec := by apply Zv; simp [IntKind.bits]
  rw [ex, ey, wrap_u64]
  have h : (x.toBitVec &&& y.toBitVec).toNat = (zk (x &&& y)) := rfl
  have h2 : (((zk (x &&& y)) : Nat) : Int) % 18446744073709551616 = (((zk (x &&& y)) : Nat) : Int) := by have := (x &&& y).toNat_lt; omega
  exact (congrArg (fun n : Nat => (n : Int) % 18446744073709551616) h).trans h2
theorem u64_or {a b : Int} {x y : UInt64} (ha : a = ((x.toNat : Nat) : Int)) (hb : b = ((y.toNat : Nat) : Int)) : IntKind.wrap .u64 (((zP (IntKind.bits .u64) a ||| zP (IntKind.bits .u64) b).toNat : Nat) : Int) = ((zk (x ||| y) : Nat) : Int) := by
  subst ha hb
  have ex : zP (IntKind.bits .u64) ((x.toNat : Nat) : Int) = x.toBitVec := by apply Zv; simp [IntKind.bits]
  have ey : zP (IntKind.bits .u64) ((y.toNat : Nat) : Int) = y.toBitVec := by apply Zv; simp [IntKind.bits]
  rw [ex, ey, wrap_u64]
  have h : (x.toBitVec ||| y.toBitVec).toNat = (zk (x ||| y)) := rfl
  have h2 : (((zk (x ||| y)) : Nat) : Int) % 18446744073709551616 = (((zk (x ||| y)) : Nat) : Int) := by have := (x ||| y).toNat_lt; omega
  exact (congrArg (fun n : Nat => (n : Int) % 18446744073709551616) h).trans h2
theorem u64_xor {a b : Int} {x y : UInt64} (ha : a = ((x.toNat : Nat) : Int)) (hb : b = ((y.toNat : Nat) : Int)) : IntKind.wrap .u64 (((zP (IntKind.bits .u64) a ^^^ zP (IntKind.bits .u64) b).toNat : Nat) : Int) = ((zk (x ^^^ y) : Nat) : Int) := by
  subst ha hb
  have ex : zP (IntKind.bits .u64) ((x.toNat : Nat) : Int) = x.toBitVec := by apply Zv; simp [IntKind.bits]
  have ey : zP (IntKind.bits .u64) ((y.toNat : Nat) : Int) = y.toBitVec := by apply Zv; simp [IntKind.bits]
  rw [ex, ey, wrap_u64]
  have h : (x.toBitVec ^^^ y.toBitVec).toNat = (zk (x ^^^ y)) := rfl
  have h2 : (((zk (x ^^^ y)) : Nat) : Int) % 18446744073709551616 = (((zk (x ^^^ y)) : Nat) : Int) := by have := (x ^^^ y).toNat_lt; omega
  exact (congrArg (fun n : Nat => (n : Int) % 18446744073709551616) h).trans h2
theorem u8_to_u32 {a : Int} {x : UInt8} (ha : a = ((x.toNat : Nat) : Int)) : IntKind.wrap .u32 a = ((ZK (UInt8.toUInt32 x) : Nat) : Int) := by
  subst ha; rw [wrap_u32, UInt8.toNat_toUInt32]; have := x.toNat_lt; omega
theorem u8_to_u64 {a : Int} {x : UInt8} (ha : a = ((x.toNat : Nat) : Int)) : IntKind.wrap .u64 a = ((zk (UInt8.toUInt64 x) : Nat) : Int) := by
  subst ha; rw [wrap_u64, UInt8.toNat_toUInt64]; have := x.toNat_lt; omega
theorem u32_to_u8 {a : Int} {x : UInt32} (ha : a = ((x.toNat : Nat) : Int)) : IntKind.wrap .u8 a = ((QN (UInt32.toUInt8 x) : Nat) : Int) := by
  subst ha; rw [wrap_u8, UInt32.toNat_toUInt8]; omega
theorem u64_to_u8 {a : Int} {x : UInt64} (ha : a = ((x.toNat : Nat) : Int)) : IntKind.wrap .u8 a = ((QN (UInt64.toUInt8 x) : Nat) : Int) := by
  subst ha; rw [wrap_u8, UInt64.toNat_toUInt8]; omega
theorem i64_rem_nat {a : Int} {n m : Nat} (ha : a = ((n : Nat) : Int)) (_hn : n ≤ 9223372036854775807) : Int.tmod a (m : Int) = ((n % m : Nat) : Int) := by
  subst ha; exact (Int.ofNat_tmod n m).symm
theorem i64_quo_nat {a : Int} {n m : Nat} (ha : a = ((n : Nat) : Int)) (hn : n ≤ 9223372036854775807) : IntKind.wrap .i64 (Int.tdiv a (m : Int)) = ((n / m : Nat) : Int) := by
  subst ha
  have h1 : Int.tdiv ((n : Nat) : Int) (m : Int) = ((n / m : Nat) : Int) := (Int.ofNat_tdiv n m).symm
  have h2 := Nat.div_le_self n m
  rw [h1]
  generalize n / m = q at h2
  exact wr64 rfl (by omega) (by omega)
theorem nat_to_u64 {a : Int} {n : Nat} (ha : a = ((n : Nat) : Int)) : IntKind.wrap .u64 a = ((zk (zi n) : Nat) : Int) := by
  subst ha; rw [wrap_u64, Y8]; omega
theorem i64_mask (a : Int) (k m : Nat) {mi : Int} (hmi : mi = (m : Int)) (hk : k < 63) (hm : m = 2 ^ k - 1) : IntKind.wrap .i64 ((zP (IntKind.bits .i64) a &&& zP (IntKind.bits .i64) mi).toNat : Int) = a % (2 ^ k : Int) := by
  subst hmi
  subst hm
  have hp : 2 ^ k ≤ 2 ^ 62 := Nat.pow_le_pow_right (by decide) (by omega)
  have hp0 : 0 < 2 ^ k := Nat.two_pow_pos k
  have h1 : (zP (IntKind.bits .i64) ((2 ^ k - 1 : Nat) : Int)).toNat = 2 ^ k - 1 := by
    show (zP 64 ((2 ^ k - 1 : Nat) : Int)).toNat = 2 ^ k - 1
    rw [X8]
    omega
  have h2 : (zP (IntKind.bits .i64) a).toNat = (a % 18446744073709551616).toNat := by
    show (zP 64 a).toNat = _
    rw [X8]
    rfl
  rw [BitVec.toNat_and, h1, h2, Nat.and_two_pow_sub_one_eq_mod]
  have h3 : (((a % 18446744073709551616).toNat % 2 ^ k : Nat) : Int) = a % (2 ^ k : Int) := by
    rw [Int.natCast_emod, Int.toNat_of_nonneg (by omega)]
    have hd : ((2 ^ k : Nat) : Int) ∣ 18446744073709551616 := by
      refine ⟨((2 ^ (64 - k) : Nat) : Int), ?_⟩
      rw [← YF, ← Nat.pow_add, show k + (64 - k) = 64 by omega]
      rfl
    rw [Int.emod_emod_of_dvd a hd]
    simp
  rw [h3]
  have h4 : a % (2 ^ k : Int) < 2 ^ k := Int.emod_lt_of_pos a (by have : ((2 ^ k : Nat) : Int) = (2 ^ k : Int) := by simp
                                                                  omega)
  have h5 : 0 ≤ a % (2 ^ k : Int) := Int.emod_nonneg a (by have : ((2 ^ k : Nat) : Int) = (2 ^ k : Int) := by simp
                                                           omega)
  have h6 : (2 ^ k : Int) ≤ 4611686018427387904 := by
    have : ((2 ^ k : Nat) : Int) = (2 ^ k : Int) := by simp
    omega
  exact wr64 rfl (by omega) (by omega)
end Go.Dbr
namespace Go.Dbr
open Go Go.RowKit
def bv (b : UInt8) : Value := .int .u8 ((QN b : Nat) : Int)
def bys (l : List UInt8) : List Value := l.map bv
theorem bys_append (l m : List UInt8) : bys (l ++ m) = bys l ++ bys m := by simp [bys]
theorem bys_nil_append (l : List UInt8) : bys [] ++ bys l = bys l := rfl
theorem bys_len (l : List UInt8) : (bys l).length = l.length * 1 := by simp [bys]
theorem bys_length (l : List UInt8) : (bys l).length = l.length := by simp [bys]
theorem bys_one (l : List UInt8) : ∀ u ∈ bys l, u.oneCell' = true := by
  intro u hu
  obtain ⟨b, _, rfl⟩ := YX.1 hu
  rfl
theorem bys_take (l : List UInt8) (n : Nat) : bys (l.take n) = (bys l).take n := by simp [bys, List.map_take]
theorem bys_get {l : List UInt8} {j : Nat} (h : j < l.length) : (bys l)[j]? = some (bv l[j]) := by simp [bys, h]
theorem bys_set (l : List UInt8) (j : Nat) (b : UInt8) : (bys l).set j (bv b) = bys (l.set j b) := by simp [bys, Kb]
theorem bys_lenn {n : Nat} {l : List UInt8} (h : n = l.length) : (bys l).length = n * 1 := by rw [bys_length, h, zI]
structure InB (w : World) (L : List Ent) (a : Option Addr) (c : Nat) (l : List UInt8) : Prop where
  ro : Ro w L a (bys l)
  nz : a = none → l.length = 0
  cap : l.length ≤ c
  small : l.length ≤ 140737488353280
theorem InB.ev {w w' : World} {L L' : List Ent} {a : Option Addr} {c : Nat} {l : List UInt8} (h : InB w L a c l) (e : Ev w L w' L') : InB w' L' a c l := ⟨h.ro.ev e, h.nz, h.cap, h.small⟩
theorem InB.pick {w : World} {L M : List Ent} {a : Option Addr} {c : Nat} {l : List UInt8} (h : InB w L a c l) (is : List Nat) (hm : M.map some = is.map (fun i => L[i]?)) : InB w M a c l := ⟨h.ro.pick is hm, h.nz, h.cap, h.small⟩
theorem InB.reads {w : World} {L : List Ent} {a : Option Addr} {c : Nat} {l : List UInt8} (h : InB w L a c l) : Reads w a (bys l) := h.ro.reads
theorem bys_in {w : World} {L M : List Ent} (h : Heap w L) {k : Nat} {a : Option Addr} {cap : Nat} {l : List UInt8} {T : TypeId} (hk : L[k]? = some (.vec a cap 1 (bys l) T))
    (is : List Nat) (hm : M.map some = is.map (fun i => L[i]?)) (hn : is.contains k = false) (hs : l.length ≤ 140737488353280) : InB w M a cap l := by
  refine ⟨h.ro hk is hm hn, fun ha => ?_, ?_, hs⟩
  · subst ha
    have := (h.holds k _ hk).2
    have h2 := bys_length l
    rw [this] at h2
    simpa using h2.symm
  · have hh := h.holds k _ hk
    cases a with
    | none => have h2 := bys_length l; rw [hh.2] at h2; simp at h2; omega
    | some ad => have := hh.2.2.1; rw [bys_length] at this; omega
theorem bys_vnz {w : World} {L : List Ent} (h : Heap w L) {k : Nat} {a : Option Addr} {cap : Nat} {l : List UInt8} {T : TypeId} (hk : L[k]? = some (.vec a cap 1 (bys l) T)) : a = none → l.length = 0 := by
  intro ha
  subst ha
  have := (h.holds k _ hk).2
  have h2 := bys_length l
  rw [this] at h2
  simpa using h2.symm
def uv16 (b : UInt16) : Value := .int .u16 ((UInt16.toNat b : Nat) : Int)
def uv32 (b : UInt32) : Value := .int .u32 ((ZK b : Nat) : Int)
def u32s (l : List UInt32) : List Value := l.map uv32
theorem u32s_length (l : List UInt32) : (u32s l).length = l.length := by simp [u32s]
theorem u32s_one (l : List UInt32) : ∀ u ∈ u32s l, u.oneCell' = true := by
  intro u hu
  obtain ⟨b, _, rfl⟩ := YX.1 hu
  rfl
theorem u32s_get {l : List UInt32} {j : Nat} (h : j < l.length) : (u32s l)[j]? = some (uv32 l[j]) := by simp [u32s, h]
theorem u32s_set (l : List UInt32) (j : Nat) (b : UInt32) : (u32s l).set j (uv32 b) = u32s (l.set j b) := by simp [u32s, Kb]
def uv64 (b : UInt64) : Value := .int .u64 ((zk b : Nat) : Int)
def u64s (l : List UInt64) : List Value := l.map uv64
theorem u64s_length (l : List UInt64) : (u64s l).length = l.length := by simp [u64s]
theorem u64s_one (l : List UInt64) : ∀ u ∈ u64s l, u.oneCell' = true := by
  intro u hu
  obtain ⟨b, _, rfl⟩ := YX.1 hu
  rfl
theorem u64s_get {l : List UInt64} {j : Nat} (h : j < l.length) : (u64s l)[j]? = some (uv64 l[j]) := by simp [u64s, h]
theorem u64s_set (l : List UInt64) (j : Nat) (b : UInt64) : (u64s l).set j (uv64 b) = u64s (l.set j b) := by simp [u64s, Kb]
def iv64 (b : Int) : Value := .int .i64 b
def i64s (l : List Int) : List Value := l.map iv64
theorem i64s_length (l : List Int) : (i64s l).length = l.length := by simp [i64s]
end Go.Dbr
namespace Go.Dbr
open Go Go.RowKit
section
variable {P : Program} {ops : Array Oper} {Q : Exit → Act → World → Prop} {n i : Nat} {l : List (Nat × Value)} {a : Act} {w w0 : World} {d : Option Tmp} {L L0 : List Ent} {K : Act → World → Prop}
theorem run_indexAt {t e : TypeId} {sz : Nat} {k : IntKind} (hu : P.underlying t = some (.slice e)) (hs : (fun w => (sizeOf e).run P w) = fun w => .ok sz w) (ad : Addr) (len cap : Nat) (ix : Int) (h0 : 0 ≤ ix) (h1 : ix < len) :
    (Instr.indexAt t (.slice (some ad) len cap) (.int k ix)).run P w = .ok (.pointer (some (ad.add (ix.toNat * sz)))) w := by
  have hs' : (sizeOf e).run P w = .ok sz w := congrFun hs w
  simp [Instr.indexAt, asIntOf, run_underlying hu, h0, h1, hs']
theorem op_loadel (E : Env a n l) {t : TypeId} {ad : Addr} {ao : Option Addr} {xs : List Value} {j : Nat} {v : Value} (h : opAt ops n i l = some (.run d (nv (Instr.loadAt t (.pointer (some (ad.add j)))))))
    (hr : Reads w ao xs) (ha : ao = some ad) (hv : xs[j]? = some v) (ht : (fun w => (isAgg t).run P w) = fun w => .ok false w) (next : ∀ a', Env a' n (putl d v l) → K a' w) : wpOp P ops Q i K a w := by
  subst ha
  exact op_load E h (hr j v hv) ht next
theorem Heap.setVec {k : Nat} {ad : Addr} {cap sz j : Nat} {xs : List Value} {T : TypeId} (v : Value) (h : Heap w L) (hk : L[k]? = some (.vec (some ad) cap sz xs T)) (hj : j < xs.length) :
    Ev w L (w.setCell (ad.add j) v) (L.set k (.vec (some ad) cap sz (xs.set j v) T)) := by
  obtain ⟨h1, h2, h3, cur, fz, h4, hfz, h5, h6⟩ := h.holds k _ hk
  obtain ⟨b, o, sp⟩ := ad
  simp only at h1 h4 h5 h6
  subst h1
  rw [add_off]
  refine Ev.change h hk (chg_setCell w ⟨b, o + j, none⟩ v rfl) ⟨rfl, h2, by simpa using h3, cur.setIfInBounds (o + j) v, fz, heap_setCell_fz v h4, by simpa using hfz, by simpa using h5, fun m hm => ?_⟩ (fun c hc => .inl hc)
  simp only [List.length_set] at hm
  by_cases hmj : m = j
  · subst hmj
    have h7 : o + m < cur.size := by omega
    rw [YR h7, QE hm]
  · have h7 : o + j ≠ o + m := by omega
    rw [Zm h7, YT (Ne.symm hmj)]
    exact h6 m hm
theorem run_storeel {k : Nat} {ad : Addr} {cap sz j : Nat} {xs : List Value} {T t : TypeId} {v : Value} (hs : (fun w => (sizeOf t).run P w) = fun w => .ok 1 w) (h : Heap w L) (hk : L[k]? = some (.vec (some ad) cap sz xs T))
    (hj : j < xs.length) (hv : v.oneCell' = true) : (Instr.storeAt t (.pointer (some (ad.add j))) v).run P w = .ok () (w.setCell (ad.add j) v) := by
  have hcell : ∃ u, w.cell? (ad.add j) = some u := ⟨_, h.reads hk j _ (z3 hj)⟩
  obtain ⟨u, hu⟩ := hcell
  obtain ⟨h1, h2, h3, cur, fz, h4, hfz, h5, h6⟩ := h.holds k _ hk
  obtain ⟨b, o, sp⟩ := ad
  simp only at h1 h4 h5 h6
  subst h1
  have hs1 : (sizeOf t).run P w = .ok 1 w := congrFun hs w
  have hc : v.cells = #[v] := by cases v <;> first | rfl | (simp [Value.oneCell'] at hv)
  rw [add_off] at hu ⊢
  have hfr := frozen_fz (j := o + j) h4 hfz (by omega)
  simp [Instr.storeAt, Instr.sureAddr, storeVar, hc, hs1, storeCells, add_off, run_store P w _ v _ hv, hu, hfr]
theorem op_storeel (E : Env a n l) {t : TypeId} {ad : Addr} {ao : Option Addr} {k cap sz j : Nat} {xs : List Value} {T : TypeId} {v : Value} (h : opAt ops n i l = some (.run d (nu (Instr.storeAt t (.pointer (some (ad.add j))) v))))
    (H : Ev w0 L0 w L) (hk : L[k]? = some (.vec ao cap sz xs T)) (ha : ao = some ad) (hj : j < xs.length) (hs : (fun w => (sizeOf t).run P w) = fun w => .ok 1 w) (hv : v.oneCell' = true)
    (next : ∀ a' w', Env a' n (putl d undef l) → Ev w0 L0 w' (L.set k (.vec ao cap sz (xs.set j v) T)) → K a' w') : wpOp P ops Q i K a w := by
  subst ha
  exact any_unit E h (run_nu (run_storeel hs H.heap hk hj hv)) fun a' E' => next a' _ E' (H.trans (H.heap.setVec v hk hj))
theorem run_shr_u64 (x : UInt64) (k : IntKind) (n : Nat) (hn : n < 64) (w : World) : (Op.shift .shr .u64 ((zk x : Nat) : Int) k ((n : Nat) : Int)).run P w = .ok (.int .u64 ((zk (x >>> zi n) : Nat) : Int)) w := by
  unfold Op.shift
  have h1 : ¬ (((n : Nat) : Int) < 0) := by omega
  have h2 : min (((n : Nat) : Int)).toNat (IntKind.bits .u64) = n := by simp [IntKind.bits]; omega
  rw [if_neg h1]
  simp only [h2, Sem.run_pure]
  rw [u64_shr (x := x) rfl hn]
theorem run_shr_u32 (x : UInt32) (k : IntKind) (n : Nat) (hn : n < 32) (w : World) : (Op.shift .shr .u32 ((ZK x : Nat) : Int) k ((n : Nat) : Int)).run P w = .ok (.int .u32 ((ZK (x >>> zH n) : Nat) : Int)) w := by
  unfold Op.shift
  have h1 : ¬ (((n : Nat) : Int) < 0) := by omega
  have h2 : min (((n : Nat) : Int)).toNat (IntKind.bits .u32) = n := by simp [IntKind.bits]; omega
  rw [if_neg h1]
  simp only [h2, Sem.run_pure]
  rw [u32_shr (x := x) rfl hn]
theorem run_shl_u64 (x : UInt64) (k : IntKind) (n : Nat) (hn : n < 64) (w : World) : (Op.shift .shl .u64 ((zk x : Nat) : Int) k ((n : Nat) : Int)).run P w = .ok (.int .u64 ((zk (x <<< zi n) : Nat) : Int)) w := by
  unfold Op.shift
  have h1 : ¬ (((n : Nat) : Int) < 0) := by omega
  have h2 : min (((n : Nat) : Int)).toNat (IntKind.bits .u64) = n := by simp [IntKind.bits]; omega
  rw [if_neg h1]
  simp only [h2, Sem.run_pure]
  rw [u64_shl (x := x) rfl hn]
theorem run_shl_u32 (x : UInt32) (k : IntKind) (n : Nat) (hn : n < 32) (w : World) : (Op.shift .shl .u32 ((ZK x : Nat) : Int) k ((n : Nat) : Int)).run P w = .ok (.int .u32 ((ZK (x <<< zH n) : Nat) : Int)) w := by
  unfold Op.shift
  have h1 : ¬ (((n : Nat) : Int) < 0) := by omega
  have h2 : min (((n : Nat) : Int)).toNat (IntKind.bits .u32) = n := by simp [IntKind.bits]; omega
  rw [if_neg h1]
  simp only [h2, Sem.run_pure]
  rw [u32_shl (x := x) rfl hn]
end
end Go.Dbr
namespace Go.Dbr
open Go Go.RowKit Go.ChangeShapes Go.WideShapes Go.ChangeAt
open Go.ChangeMaps (open_string)
variable {H : Type} {enc : TypeId × Value → H} {P : Program} {W : World}
theorem Ev.below {w w' : World} (h : Ev w [] w' []) : Below w.heap.size w w' :=
  ⟨h.chg.os, h.chg.tape, h.chg.output, h.chg.size, fun k hk => h.chg.block k hk Owns.nil⟩
theorem ro_nil {w : World} {a : Option Addr} {xs : List Value} (h : Reads w a xs) : Ro w [] a xs := ⟨h, fun _ _ _ => Owns.nil⟩
theorem lift_u8 {n : Int} (h : (Lit.int .u8 n).wf = true) : ∃ x : UInt8, n = ((QN x : Nat) : Int) := by
  simp [Lit.wf, IntKind.min, IntKind.max, IntKind.signed, IntKind.bits] at h
  refine ⟨UInt8.ofNat n.toNat, ?_⟩
  rw [UInt8.toNat_ofNat']
  omega
theorem lift_u16 {n : Int} (h : (Lit.int .u16 n).wf = true) : ∃ x : UInt16, n = ((UInt16.toNat x : Nat) : Int) := by
  simp [Lit.wf, IntKind.min, IntKind.max, IntKind.signed, IntKind.bits] at h
  refine ⟨UInt16.ofNat n.toNat, ?_⟩
  rw [UInt16.toNat_ofNat']
  omega
theorem lift_u64 {n : Int} (h : (Lit.int .u64 n).wf = true) : ∃ x : UInt64, n = ((zk x : Nat) : Int) := by
  simp [Lit.wf, IntKind.min, IntKind.max, IntKind.signed, IntKind.bits] at h
  refine ⟨zi n.toNat, ?_⟩
  rw [Y8]
  omega
end Go.Dbr
namespace Go.Dbr
open Go Go.RowKit Go.ChangeShapes Go.WideShapes Go.ChangeAt
structure Sl (α : Type) where
  a : Option Addr
  c : Nat
  l : List α
def Sl.f {α : Type} (s : Sl α) : List Value := [.slice s.a s.l.length s.c]
structure InS {α : Type} (f : α → List Value) (by_ : Nat) (ok : α → Prop) (w : World) (L : List Ent) (a : Option Addr) (c : Nat) (l : List α) : Prop where
  ro : Ro w L a (l.flatMap f)
  nz : a = none → l.length = 0
  cap : l.length ≤ c
  small : l.length * by_ ≤ 140737488351232
  each : ∀ x ∈ l, ok x
theorem flat_len {α : Type} {f : α → List Value} {sz : Nat} : ∀ {l : List α}, (∀ x ∈ l, (f x).length = sz) → (l.flatMap f).length = l.length * sz
  | [], _ => by simp
  | x :: r, h => by
    rw [YP, zE, h x (by simp), flat_len fun y hy => h y (by simp [hy]), zL, ZE]
    omega
theorem flat_get {α : Type} {f : α → List Value} {sz : Nat} : ∀ {l : List α} {i j : Nat} {x : α}, (∀ x ∈ l, (f x).length = sz) → l[i]? = some x → j < sz → (l.flatMap f)[i * sz + j]? = (f x)[j]?
  | [], i, j, x, _, h, _ => by simp at h
  | y :: r, 0, j, x, hl, h, hj => by
    simp only [QY, Option.some.injEq] at h
    subst h
    rw [YP, Nat.zero_mul, Yi, zY (by rw [hl y (by simp)]; exact hj)]
  | y :: r, i + 1, j, x, hl, h, hj => by
    rw [Ys] at h
    rw [YP, Ze (by rw [hl y (by simp), ZE]; omega), hl y (by simp)]
    have e : (i + 1) * sz + j - sz = i * sz + j := by rw [ZE]; omega
    rw [e]
    exact flat_get (fun x hx => hl x (by simp [hx])) h hj
theorem flat_get_inv {α : Type} {f : α → List Value} {sz : Nat} : ∀ {l : List α} {j : Nat} {u : Value}, (∀ x ∈ l, (f x).length = sz) → (l.flatMap f)[j]? = some u → ∃ i k x, j = i * sz + k ∧ k < sz ∧ l[i]? = some x ∧ (f x)[k]? = some u
  | [], j, u, _, h => by simp at h
  | y :: r, j, u, hl, h => by
    rw [YP] at h
    by_cases hj : j < sz
    · rw [zY (by rw [hl y (by simp)]; exact hj)] at h
      exact ⟨0, j, y, by omega, hj, rfl, h⟩
    · rw [Ze (by rw [hl y (by simp)]; omega), hl y (by simp)] at h
      obtain ⟨i, k, x, h1, h2, h3, h4⟩ := flat_get_inv (fun x hx => hl x (by simp [hx])) h
      exact ⟨i + 1, k, x, by rw [ZE]; omega, h2, by simpa using h3, h4⟩
section
variable {H : Type} (enc : TypeId × Value → H) (P : Program) (W : World)
def Opens {α : Type} (T : TypeId) (sz : Nat) (f : α → List Value) (ok : α → Prop) (m : α → Nat) : Prop :=
  P.cellsOf T = sz ∧ (∀ x, ok x → (f x).length = sz) ∧ ∀ (fuel : Nat) (cs : List Value) (x : DataW H × List MemPlace), DataW.trod enc P W 0 (fun _ => true) true fuel T cs = some x → (∀ n ∈ x.1.weights P T, n ≤ reachBytes) → ∃ y : α, cs = f y ∧ ok y ∧ m y + 1 ≤ Go.Proofs.YtpfhmbbiadpbeaaGreat.Rows.uptoBulk x.1
def OpensF {α : Type} (fs : List Field) (off sz : Nat) (f : α → List Value) (ok : α → Prop) (m : α → Nat) : Prop :=
  (∀ x, ok x → (f x).length = sz) ∧ ∀ (fuel : Nat) (cs : List Value) (xs : List (DataW H × List MemPlace)), xs.length = fs.length → cs.length = off + sz →
    (∀ (i : Nat) (g : Field), fs[i]? = some g → DataW.trod enc P W 0 (fun _ => true) true fuel g.type ((cs.drop g.offset).take (P.cellsOf g.type)) = xs[i]?) →
    (∀ n ∈ DataW.weightsEach P (fs.map (·.type)) (xs.map (·.1)), n ≤ reachBytes) → ∃ y : α, cs.drop off = f y ∧ ok y ∧ m y ≤ Go.Proofs.YtpfhmbbiadpbeaaGreat.Rows.uptoBulkAll (xs.map (·.1))
end
section
variable {H : Type} {enc : TypeId × Value → H} {P : Program} {W : World}
theorem bulk_le {H : Type} : ∀ {l : List (DataW H)} {n : Nat} {g : Nat → Nat}, n ≤ l.length → (∀ i d, i < n → l[i]? = some d → g i + 1 ≤ Go.Proofs.YtpfhmbbiadpbeaaGreat.Rows.uptoBulk d) → ((Q3 n).map fun i => g i + 1).sum ≤ Go.Proofs.YtpfhmbbiadpbeaaGreat.Rows.uptoBulkAll l
  | _, 0, g, _, _ => by simp
  | [], n + 1, g, h, _ => by simp at h
  | d :: r, n + 1, g, h, hg => by
    have h0 := hg 0 d (by omega) rfl
    have ih := bulk_le (l := r) (n := n) (g := fun i => g (i + 1)) (by simpa using h) fun i e hi he => hg (i + 1) e (by omega) (by simpa using he)
    rw [Xt, Qs, Xu, X6]
    simp only [Go.Proofs.YtpfhmbbiadpbeaaGreat.Rows.uptoBulkAll]
    have e : (List.map ((fun i => g i + 1) ∘ Nat.succ) (Q3 n)) = (Q3 n).map fun i => g (i + 1) + 1 := rfl
    rw [e]
    omega
theorem sum_at {α : Type} {m : α → Nat} {g : Nat → Nat} : ∀ {l : List α} {k : Nat}, (∀ (i : Nat) (x : α), l[i]? = some x → m x = g (k + i)) → (l.map fun x => m x + 1).sum = ((Q3 l.length).map fun i => g (k + i) + 1).sum
  | [], _, _ => rfl
  | x :: r, k, h => by
    have h0 := h 0 x rfl
    have ih := sum_at (m := m) (g := g) (l := r) (k := k + 1) fun i y hy => by have := h (i + 1) y (by simpa using hy); rw [this]; congr 1; omega
    rw [zL, Xt, Qs, Qs, X6, X6, Xu, ih, h0]
    congr 2
    apply List.map_congr_left
    intro i _
    show _ = g (k + (i + 1)) + 1
    congr 2
    omega
theorem choose_fun {p : Nat → Nat → Prop} (n : Nat) (h : ∀ i, i < n → ∃ v, p i v) : ∃ g : Nat → Nat, ∀ i, i < n → p i (g i) := by
  induction n with
  | zero => exact ⟨fun _ => 0, fun i hi => by omega⟩
  | succ n ih =>
    obtain ⟨g, hg⟩ := ih fun i hi => h i (by omega)
    obtain ⟨v, hv⟩ := h n (by omega)
    refine ⟨fun i => if i = n then v else g i, fun i hi => ?_⟩
    by_cases e : i = n
    · subst e; simpa using hv
    · simp only [if_neg e]; exact hg i (by omega)
theorem bulk_list {H : Type} {α : Type} {m : α → Nat} {l : List α} {ds : List (DataW H)} (hl : l.length ≤ ds.length) (h : ∀ (i : Nat) (x : α) (d : DataW H), l[i]? = some x → ds[i]? = some d → m x + 1 ≤ Go.Proofs.YtpfhmbbiadpbeaaGreat.Rows.uptoBulk d) : (l.map fun x => m x + 1).sum ≤ Go.Proofs.YtpfhmbbiadpbeaaGreat.Rows.uptoBulkAll ds := by
  obtain ⟨g, hg⟩ := choose_fun (p := fun i v => ∀ x, l[i]? = some x → m x = v) l.length fun i hi => ⟨m l[i], fun x hx => by rw [z3 hi] at hx; simp only [Option.some.injEq] at hx; rw [hx]⟩
  have e := sum_at (m := m) (g := g) (l := l) (k := 0) fun i x hx => by rw [Yi]; exact hg i (Zr.1 hx).1 x hx
  rw [e]
  refine Jp (KA ?_) (bulk_le (n := l.length) (g := g) hl fun i d hi hd => ?_)
  · simp
  · rw [← hg i hi _ (z3 hi)]
    exact h i _ d (z3 hi) hd
theorem mem_weightsAll {e : TypeId} : ∀ {ds : List (DataW H)} {d : DataW H} {n : Nat}, d ∈ ds → n ∈ d.weights P e → n ∈ DataW.weightsAll P e ds
  | d0 :: r, d, n, hd, hn => by
    simp only [DataW.weightsAll, Q4]
    rcases Qt.1 hd with rfl | hd
    · exact .inl hn
    · exact .inr (mem_weightsAll hd hn)
theorem Opens.map {α β : Type} {T : TypeId} {sz : Nat} {f : α → List Value} {ok : α → Prop} {m : α → Nat} {f' : β → List Value} {ok' : β → Prop} {m' : β → Nat} (h : Opens enc P W T sz f ok m) (g : α → β) (hf : ∀ x, f x = f' (g x)) (ho : ∀ x, ok x → ok' (g x)) (hm : ∀ x, m' (g x) ≤ m x) (hl : ∀ y, ok' y → (f' y).length = sz) : Opens enc P W T sz f' ok' m' :=
  ⟨h.1, hl, fun fuel cs d ht hw => by
    obtain ⟨y, rfl, hy, hb⟩ := h.2.2 fuel cs d ht hw
    exact ⟨g y, hf y, ho y hy, Jp (XO (hm y) 1) hb⟩⟩
theorem opens_u8 {T : TypeId} (hu : P.underlying T = some (.int .u8)) (hc : P.cellsOf T = 1) : Opens enc P W T 1 (fun n : UInt8 => [bv n]) (fun _ => True) (fun _ => 0) :=
  ⟨hc, fun _ _ => rfl, fun _ _ _ ht _ => by
    obtain ⟨n, rfl, rfl, hw⟩ := DataW.trod_int hu ht
    obtain ⟨x, rfl⟩ := lift_u8 hw
    exact ⟨x, rfl, trivial, by simp [Go.Proofs.YtpfhmbbiadpbeaaGreat.Rows.uptoBulk]⟩⟩
theorem opens_u16 {T : TypeId} (hu : P.underlying T = some (.int .u16)) (hc : P.cellsOf T = 1) : Opens enc P W T 1 (fun n : UInt16 => [uv16 n]) (fun _ => True) (fun _ => 0) :=
  ⟨hc, fun _ _ => rfl, fun _ _ _ ht _ => by
    obtain ⟨n, rfl, rfl, hw⟩ := DataW.trod_int hu ht
    obtain ⟨x, rfl⟩ := lift_u16 hw
    exact ⟨x, rfl, trivial, by simp [Go.Proofs.YtpfhmbbiadpbeaaGreat.Rows.uptoBulk]⟩⟩
theorem opens_u64 {T : TypeId} (hu : P.underlying T = some (.int .u64)) (hc : P.cellsOf T = 1) : Opens enc P W T 1 (fun n : UInt64 => [uv64 n]) (fun _ => True) (fun _ => 0) :=
  ⟨hc, fun _ _ => rfl, fun _ _ _ ht _ => by
    obtain ⟨n, rfl, rfl, hw⟩ := DataW.trod_int hu ht
    obtain ⟨x, rfl⟩ := lift_u64 hw
    exact ⟨x, rfl, trivial, by simp [Go.Proofs.YtpfhmbbiadpbeaaGreat.Rows.uptoBulk]⟩⟩
theorem opens_bool {T : TypeId} (hu : P.underlying T = some .bool) (hc : P.cellsOf T = 1) : Opens enc P W T 1 (fun b : Bool => [.bool b]) (fun _ => True) (fun _ => 0) :=
  ⟨hc, fun _ _ => rfl, fun _ _ _ ht _ => by
    obtain ⟨b, rfl, rfl⟩ := DataW.trod_bool hu ht
    exact ⟨b, rfl, trivial, by simp [Go.Proofs.YtpfhmbbiadpbeaaGreat.Rows.uptoBulk]⟩⟩
theorem opensF_nil {off : Nat} : OpensF enc P W [] off 0 (fun _ : Unit => []) (fun _ => True) (fun _ => 0) :=
  ⟨fun _ _ => rfl, fun _ cs _ _ hl _ _ => ⟨(), Xv (by omega), trivial, Nat.zero_le _⟩⟩
theorem opensF_cons {α β : Type} {g : Field} {fs : List Field} {off sz sz' : Nat} {f : α → List Value} {ok : α → Prop} {m : α → Nat} {f' : β → List Value} {ok' : β → Prop} {m' : β → Nat} (h : Opens enc P W g.type sz f ok m) (ho : g.offset = off) (h' : OpensF enc P W fs (off + sz) sz' f' ok' m') :
    OpensF enc P W (g :: fs) off (sz + sz') (fun p : α × β => f p.1 ++ f' p.2) (fun p => ok p.1 ∧ ok' p.2) (fun p => m p.1 + m' p.2) := by
  refine ⟨fun x hx => by rw [zE, h.2.1 _ hx.1, h'.1 _ hx.2], fun fuel cs xs hxl hl ht hw => ?_⟩
  cases xs with
  | nil => simp at hxl
  | cons x xs =>
    have h0 := ht 0 g rfl
    rw [QY, ho, h.1] at h0
    simp only [Qs, DataW.weightsEach, Q4] at hw
    obtain ⟨y, hy, oy, by_⟩ := h.2.2 fuel _ x h0 fun n hn => hw n (.inl hn)
    obtain ⟨z, hz, oz, bz⟩ := h'.2 fuel cs xs (by simpa using hxl) (by omega) (fun i g' hg => by
      have := ht (i + 1) g' (by simpa using hg)
      rwa [Ys] at this) fun n hn => hw n (.inr hn)
    refine ⟨(y, z), ?_, ⟨oy, oz⟩, ?_⟩
    · show _ = f y ++ f' z
      rw [← hy, ← hz, ← List.drop_drop, YN]
    · simp only [Qs, Go.Proofs.YtpfhmbbiadpbeaaGreat.Rows.uptoBulkAll]
      omega
theorem opens_struct {α : Type} {T : TypeId} {fs : Array Field} {sz : Nat} {f : α → List Value} {ok : α → Prop} {m : α → Nat} (hu : P.underlying T = some (.struct fs)) (hc : P.cellsOf T = sz) (h : OpensF enc P W fs.toList 0 sz f ok m) : Opens enc P W T sz f ok m := by
  refine ⟨hc, h.1, fun fuel cs d ht hw => ?_⟩
  obtain ⟨xs, n, _, rfl, hl, hxl, hx⟩ := DataW.trod_struct hu ht
  obtain ⟨y, hy, oy, b⟩ := h.2 n cs xs (by rw [hxl, Yp]) (by rw [hl, hc, Yi]) (fun i g hg => hx i g (by simpa using hg)) (fun n hn => hw n (by simp only [DataW.weights, hu]; exact hn))
  exact ⟨y, by simpa using hy, oy, by simp only [Go.Proofs.YtpfhmbbiadpbeaaGreat.Rows.uptoBulk]; omega⟩
theorem choose_list {α : Type} {p : Nat → α → Prop} : ∀ n, (∀ i, i < n → ∃ x, p i x) → ∃ l : List α, l.length = n ∧ ∀ i x, l[i]? = some x → p i x
  | 0, _ => ⟨[], rfl, fun i x h => by simp at h⟩
  | n + 1, h => by
    obtain ⟨l, hl, hp⟩ := choose_list n fun i hi => h i (by omega)
    obtain ⟨x, hx⟩ := h n (by omega)
    refine ⟨l ++ [x], by simp [hl], fun i y hy => ?_⟩
    by_cases hi : i < l.length
    · rw [zY hi] at hy
      exact hp i y hy
    · rw [Ze (by omega)] at hy
      have h0 : i - l.length = 0 := by have := (Zr.1 hy).1; simp at this; omega
      rw [h0] at hy
      simp only [QY, Option.some.injEq] at hy
      subst hy
      have : i = n := by omega
      subst this
      exact hx
theorem opens_array {α : Type} {T e : TypeId} {n sz : Nat} {f : α → List Value} {ok : α → Prop} {m : α → Nat} (hu : P.underlying T = some (.array n e)) (hc : P.cellsOf T = n * sz) (h : Opens enc P W e sz f ok m) :
    Opens enc P W T (n * sz) (fun l : List α => l.flatMap f) (fun l => l.length = n ∧ ∀ x ∈ l, ok x) (fun l => (l.map fun x => m x + 1).sum) := by
  refine ⟨hc, fun l hl => by rw [flat_len fun x hx => h.2.1 x (hl.2 x hx), hl.1], fun fuel cs d ht hw => ?_⟩
  obtain ⟨xs, fm, _, rfl, hl, hxl, hx⟩ := DataW.trod_array hu ht
  obtain ⟨l, hll, hlp⟩ := choose_list (p := fun i y => (cs.drop (i * sz)).take sz = f y ∧ ok y ∧ ∀ d, xs[i]? = some d → m y + 1 ≤ Go.Proofs.YtpfhmbbiadpbeaaGreat.Rows.uptoBulk d.1) n fun i hi => by
    have h1 := hx i hi
    rw [h.1] at h1
    have h2 : i < xs.length := by omega
    rw [z3 h2] at h1
    obtain ⟨y, hy, oy, b⟩ := h.2.2 fm _ _ h1 fun k hk => hw k (by
      simp only [DataW.weights, hu]
      exact mem_weightsAll (YX.2 ⟨_, List.getElem_mem h2, rfl⟩) hk)
    exact ⟨y, hy, oy, fun d hd => by rw [z3 h2] at hd; simp only [Option.some.injEq] at hd; rw [← hd]; exact b⟩
  have hmem : ∀ x ∈ l, ok x := fun x hx => by
    obtain ⟨i, hi, rfl⟩ := XQ.1 hx
    exact (hlp i _ (z3 hi)).2.1
  refine ⟨l, ?_, ⟨hll, hmem⟩, ?_⟩
  rotate_left
  · simp only [Go.Proofs.YtpfhmbbiadpbeaaGreat.Rows.uptoBulk]
    refine XO (bulk_list (by simp; omega) fun i x d hx hd => ?_) 1
    simp only [Yh, Option.map_eq_some_iff] at hd
    obtain ⟨q, hq, rfl⟩ := hd
    exact (hlp i x hx).2.2 q hq
  apply YQ
  intro j
  have hfl := flat_len (l := l) (fun x hx => h.2.1 x (hmem x hx))
  by_cases hj : j < n * sz
  · have hpos : 0 < sz := by rcases Jh sz with h0 | h0; · subst h0; simp at hj
                             · exact h0
    have hq : j / sz < n := Nat.div_lt_of_lt_mul (by rw [Zf]; exact hj)
    have hm := Nat.mod_lt j hpos
    have e := Nat.div_add_mod j sz
    have hi : j / sz < l.length := by omega
    have h1 := flat_get (f := f) (sz := sz) (j := j % sz) (fun x hx => h.2.1 x (hmem x hx)) (z3 hi) hm
    have h2 := hlp (j / sz) _ (z3 hi)
    rw [Zf, e] at h1
    rw [h1, ← h2.1, QT, if_pos hm, Ji, Zf, e]
  · rw [ZR (by rw [hl, hc]; omega), ZR (by rw [hfl, hll]; omega)]
theorem opens_slice {α : Type} {T e : TypeId} {sz by_ : Nat} {f : α → List Value} {ok : α → Prop} {mm : α → Nat} (hu : P.underlying T = some (.slice e)) (hT : P.cellsOf T = 1) (hby : P.bytesOf e = by_) (h : Opens enc P W e sz f ok mm) :
    Opens enc P W T 1 (fun s : Sl α => s.f) (fun s => InS f by_ ok W [] s.a s.c s.l) (fun s => (s.l.map fun x => mm x + 1).sum) := by
  refine ⟨hT, fun _ _ => rfl, fun fuel cs d ht hw => ?_⟩
  rcases Deep.open_slice hu ht with ⟨rfl, rfl⟩ | ⟨a, len, cap, m, n, D, Pl, rfl, _, hl, hm, hmm, rfl, hx⟩
  · exact ⟨⟨none, 0, []⟩, rfl, ⟨ro_nil rfl, fun _ => rfl, Qg _, by simp, fun _ h => by cases h⟩, by simp [Go.Proofs.YtpfhmbbiadpbeaaGreat.Rows.uptoBulk]⟩
  · simp only [if_true] at hmm
    obtain rfl := hmm.symm
    simp only [DataW.weights, hu, Qt, Q4, List.length_map, List.length_range] at hw
    have hs := hw _ (.inl rfl)
    rw [hby] at hs
    have e1 : reachBytes = 140737488351232 := rfl
    rw [e1] at hs
    obtain ⟨l, hll, hlp⟩ := choose_list (p := fun i y => W.cells? 0 (a.add (i * sz)) sz = some (f y) ∧ ok y ∧ mm y + 1 ≤ Go.Proofs.YtpfhmbbiadpbeaaGreat.Rows.uptoBulk (D i)) len fun i hi => by
      obtain ⟨cs', h1, h2⟩ := hx i (by omega)
      rw [h.1] at h1
      obtain ⟨y, rfl, oy, b⟩ := h.2.2 n cs' _ h2 fun k hk => hw k (.inr (.inl (mem_weightsAll (YX.2 ⟨i, by simpa using hi, rfl⟩) hk)))
      exact ⟨y, h1, oy, b⟩
    have hmem : ∀ x ∈ l, ok x := fun x hx => by
      obtain ⟨i, hi, rfl⟩ := XQ.1 hx
      exact (hlp i _ (z3 hi)).2.1
    refine ⟨⟨some a, cap, l⟩, by simp [Sl.f, hll], ⟨ro_nil ?_, fun h => (by cases h), by show l.length ≤ cap; omega, ?_, hmem⟩, ?_⟩
    rotate_left 2
    · simp only [Go.Proofs.YtpfhmbbiadpbeaaGreat.Rows.uptoBulk]
      have := bulk_list (m := mm) (l := l) (ds := (Q3 len).map D) (by simp; omega) fun i x d hx hd => by
        have hi : i < len := by have := (Zr.1 hx).1; omega
        simp only [Yh, List.getElem?_range hi, Q1, Option.some.injEq] at hd
        rw [← hd]
        exact (hlp i x hx).2.2
      show (l.map fun x => mm x + 1).sum + 1 ≤ _
      omega
    · intro j u hj
      obtain ⟨i, k, x, rfl, hk, hi, hu'⟩ := flat_get_inv (fun x hx => h.2.1 x (hmem x hx)) hj
      have h1 := (World.cells?_some (hlp i x hi).1).2.2 k hk
      rw [hu'] at h1
      rw [← h1, Deep.add_add]
    · show l.length * by_ ≤ _
      have h1 : l.length * by_ ≤ (len + (cap - len)) * by_ := QW _ (by omega)
      exact Jp h1 hs
theorem flatMap_bys (l : List UInt8) : l.flatMap (fun b => [bv b]) = bys l := by simp [bys, List.flatMap_def]; induction l <;> simp_all <;> omega
theorem sum_ones {α : Type} (l : List α) : (l.map fun _ => 0 + 1).sum = l.length := by induction l <;> simp_all <;> omega
theorem opens_bys {T e : TypeId} (hu : P.underlying T = some (.slice e)) (hT : P.cellsOf T = 1) (he : P.underlying e = some (.int .u8)) (hc : P.cellsOf e = 1) (hby : P.bytesOf e = 1) :
    Opens enc P W T 1 (fun s : Sl UInt8 => s.f) (fun s => InB W [] s.a s.c s.l) (fun s => s.l.length) :=
  (opens_slice hu hT hby (opens_u8 he hc)).map id (fun _ => rfl) (fun s h => ⟨by have := h.ro; rwa [flatMap_bys] at this, h.nz, h.cap, by have := h.small; rw [zI] at this; exact Jp this (by decide)⟩) (fun s => KA (sum_ones s.l).symm) (fun _ _ => rfl)
theorem open_one {α : Type} {T : TypeId} {f : α → List Value} {ok : α → Prop} {m : α → Nat} (h : Opens enc P W T 1 f ok m) {v : Value} {d : DataW H} {ps : List MemPlace} (hd : DataW.Trod enc P W 0 (fun _ => true) true T v d ps) (hv : v.cells = #[v])
    (hw : ∀ n ∈ d.weights P T, n ≤ reachBytes) : ∃ y : α, [v] = f y ∧ ok y ∧ m y + 1 ≤ Go.Proofs.YtpfhmbbiadpbeaaGreat.Rows.uptoBulk d := by
  obtain ⟨fuel, hf⟩ := hd
  have := h.2.2 fuel _ _ hf hw
  rwa [hv] at this
theorem open_many {α : Type} {T : TypeId} {sz : Nat} {f : α → List Value} {ok : α → Prop} {m : α → Nat} (h : Opens enc P W T sz f ok m) {v : Value} {d : DataW H} {ps : List MemPlace} (hd : DataW.Trod enc P W 0 (fun _ => true) true T v d ps) (hv : ∃ cs, v = .agg cs)
    (hw : ∀ n ∈ d.weights P T, n ≤ reachBytes) : ∃ y : α, v = .agg (f y).toArray ∧ ok y ∧ m y + 1 ≤ Go.Proofs.YtpfhmbbiadpbeaaGreat.Rows.uptoBulk d := by
  obtain ⟨cs, rfl⟩ := hv
  obtain ⟨fuel, hf⟩ := hd
  obtain ⟨y, hy, oy, b⟩ := h.2.2 fuel _ _ hf hw
  refine ⟨y, ?_, oy, b⟩
  have : cs.toList = f y := hy
  rw [← this]
theorem one_int {r : Reach} {b0 : Nat} {T : TypeId} {v : Value} {k : IntKind} (hu : P.underlying T = some (.int k)) (h : Value.okWide P W r b0 T v) : v.cells = #[v] := by obtain ⟨_, rfl⟩ := okWide_int hu h; rfl
theorem one_slice {r : Reach} {b0 : Nat} {T e : TypeId} {v : Value} (hu : P.underlying T = some (.slice e)) (h : Value.okWide P W r b0 T v) : v.cells = #[v] := by obtain ⟨_, _, _, rfl⟩ := okWide_slice hu h; rfl
theorem sized_each {ts : List TypeId} {ds : List (DataW H)} (h : (DataW.weightsEach P ts ds).all (· ≤ reachBytes) = true) {j : Nat} {t : TypeId} {d : DataW H} (ht : ts[j]? = some t) (hd : ds[j]? = some d) : ∀ n ∈ d.weights P t, n ≤ reachBytes := fun n hn => by
  have := z7.1 h _ (DataW.weights_mem_each ht hd n hn)
  simpa using this
theorem okWide_agg {r : Reach} {b0 : Nat} {T : TypeId} {v : Value} (hu : (∃ fs, P.underlying T = some (.struct fs)) ∨ ∃ n e, P.underlying T = some (.array n e)) (h : Value.okWide P W r b0 T v) : ∃ cs, v = .agg cs := by
  rcases hu with ⟨fs, hu⟩ | ⟨n, e, hu⟩ <;> simp only [Value.okWide, hu] at h <;> obtain ⟨cs, h1, _⟩ := h <;> exact ⟨cs, h1⟩
end
end Go.Dbr
namespace Go.Dbr
open Go Go.RowKit
theorem seg_in {s r : List Value} {j : Nat} {v : Value} (hv : s[j]? = some v) : (s ++ r)[j]? = some v := by
  rw [zY (Zr.1 hv).1, hv]
theorem len_app {s r : List Value} {n m : Nat} (h : s.length = n) (h' : r.length = m) : (s ++ r).length = n + m := by rw [zE, h, h']
theorem one_app {s r : List Value} (h : ∀ u ∈ s, u.oneCell' = true) (h' : ∀ u ∈ r, u.oneCell' = true) : ∀ u ∈ s ++ r, u.oneCell' = true := fun u hu => (Q4.1 hu).elim (h u) (h' u)
theorem one_all {s : List Value} (h : s.all (fun u => u.oneCell') = true) : ∀ u ∈ s, u.oneCell' = true := z7.1 h
theorem load_whole {s : List Value} {n : Nat} (h : s.length = n) : (s.drop 0).take n = s := by rw [List.drop_zero, List.take_of_length_le (by omega)]
theorem store_whole {s xs : List Value} {n : Nat} (h : s.length = n) : s.take 0 ++ xs ++ s.drop (0 + n) = xs := by rw [List.take_zero, List.nil_append, Xv (by omega), JP]
theorem bys_lenh {n : Nat} {l : List UInt8} (h : l.length = n) : (bys l).length = n := by rw [bys_length, h]
theorem u32s_lenh {n : Nat} {l : List UInt32} (h : l.length = n) : (u32s l).length = n := by rw [u32s_length, h]
theorem u64s_lenh {n : Nat} {l : List UInt64} (h : l.length = n) : (u64s l).length = n := by rw [u64s_length, h]
theorem i64s_lenh {n : Nat} {l : List Int} (h : l.length = n) : (i64s l).length = n := by rw [i64s_length, h]
section
variable {P : Program} {ops : Array Oper} {Q : Exit → Act → World → Prop} {n i : Nat} {l : List (Nat × Value)} {a : Act} {w w0 : World} {d : Option Tmp} {L L0 : List Ent} {K : Act → World → Prop}
theorem run_loadAgg {t : TypeId} {ad : Addr} {cs : List Value} (ht : (fun w => (isAgg t).run P w) = fun w => .ok true w) (hs : (fun w => (sizeOf t).run P w) = fun w => .ok cs.length w) (hc : ∀ j v, cs[j]? = some v → w.cell? (ad.add j) = some v) :
    (Instr.loadAt t (.pointer (some ad))).run P w = .ok (.agg cs.toArray) w := by
  have h1 : (isAgg t).run P w = .ok true w := congrFun ht w
  have h2 : (sizeOf t).run P w = .ok cs.length w := congrFun hs w
  have h3 := run_loadCells_list (P := P) w ad cs hc
  simp [Instr.loadAt, Instr.sureAddr, loadVar, h1, h2, h3]
theorem Heap.cells {k b off m : Nat} {cs xs : List Value} {T : TypeId} (h : Heap w L) (hk : L[k]? = some (.box b cs T)) (hx : (cs.drop off).take m = xs) : ∀ (j : Nat) (v : Value), xs[j]? = some v → w.cell? ((⟨b, off, none⟩ : Addr).add j) = some v := by
  intro j v hv
  rw [add_off]
  refine h.cell hk ?_
  rw [← hx, QT] at hv
  split at hv
  · rwa [Ji] at hv
  · cases hv
theorem Ev.cellAgg {t : TypeId} {b off k m : Nat} {cs xs : List Value} {T : TypeId} (H : Ev w0 L0 w L) (hk : L[k]? = some (.box b cs T)) (hx : (cs.drop off).take m = xs) (hm : xs.length = m) (ht : (fun w => (isAgg t).run P w) = fun w => .ok true w) (hs : (fun w => (sizeOf t).run P w) = fun w => .ok m w) : (loadVar t ⟨b, off, none⟩).run P w = .ok (.agg xs.toArray) w := by
  subst hm
  have h1 : (isAgg t).run P w = .ok true w := congrFun ht w
  have h2 : (sizeOf t).run P w = .ok xs.length w := congrFun hs w
  have h3 := run_loadCells_list (P := P) w ⟨b, off, none⟩ xs (H.heap.cells hk hx)
  simp [loadVar, h1, h2, h3]
theorem op_loadaggbox (E : Env a n l) {t : TypeId} {b off k m : Nat} {cs xs : List Value} {T : TypeId} (h : opAt ops n i l = some (.run d (nv (Instr.loadAt t (.pointer (some ⟨b, off, none⟩))))))
    (H : Ev w0 L0 w L) (hk : L[k]? = some (.box b cs T)) (hx : (cs.drop off).take m = xs) (hm : xs.length = m) (ht : (fun w => (isAgg t).run P w) = fun w => .ok true w) (hs : (fun w => (sizeOf t).run P w) = fun w => .ok m w)
    (next : ∀ a', Env a' n (putl d (.agg xs.toArray) l) → K a' w) : wpOp P ops Q i K a w := by
  subst hm
  exact op_val E h (run_loadAgg ht hs (H.heap.cells hk hx)) next
theorem op_loadaggat (E : Env a n l) {t : TypeId} {ad A : Addr} {ao : Option Addr} {o m : Nat} {ys xs : List Value} (h : opAt ops n i l = some (.run d (nv (Instr.loadAt t (.pointer (some A))))))
    (hA : A = ad.add o) (hr : Reads w ao ys) (ha : ao = some ad) (hx : ∀ j, j < m → ys[o + j]? = xs[j]?) (hm : xs.length = m) (ht : (fun w => (isAgg t).run P w) = fun w => .ok true w) (hs : (fun w => (sizeOf t).run P w) = fun w => .ok m w)
    (next : ∀ a', Env a' n (putl d (.agg xs.toArray) l) → K a' w) : wpOp P ops Q i K a w := by
  subst hA ha hm
  refine op_val E h (run_loadAgg ht hs fun j v hv => ?_) next
  rw [Deep.add_add]
  exact hr (o + j) v (by rw [hx j (Zr.1 hv).1, hv])
theorem Heap.setRange {k b off : Nat} {cs xs : List Value} {T : TypeId} (h : Heap w L) (hk : L[k]? = some (.box b cs T)) :
    Ev w L (w.setRow b (cs.take off ++ xs ++ cs.drop (off + xs.length)).toArray) (L.set k (.box b (cs.take off ++ xs ++ cs.drop (off + xs.length)) T)) := by
  have hh : w.heap[b]? = some (.cells cs.toArray T (0, 0)) := h.holds k _ hk
  exact Ev.change h hk ⟨rfl, rfl, rfl, by simp, fun c hc hne => setRow_other w b c _ (fun e => hne (by simp [Ent.own, e]))⟩ (setRow_heap w b cs.toArray _ T _ hh) (fun c hc => .inl hc)
theorem run_storeAgg {k b off : Nat} {cs xs : List Value} {T t : TypeId} {v : Value} (hv : v.cells = xs.toArray) (hs : (fun w => (sizeOf t).run P w) = fun w => .ok xs.length w) (h : Heap w L) (hk : L[k]? = some (.box b cs T)) (hl : off + xs.length ≤ cs.length) (h1 : ∀ u ∈ xs, u.oneCell' = true) :
    (Instr.storeAt t (.pointer (some ⟨b, off, none⟩)) v).run P w = .ok () (w.setRow b (cs.take off ++ xs ++ cs.drop (off + xs.length)).toArray) := by
  have hh : w.heap[b]? = some (.cells cs.toArray T (0, 0)) := h.holds k _ hk
  have h2 : (sizeOf t).run P w = .ok xs.length w := congrFun hs w
  have h3 := run_storeCells_at P b off T xs 0 cs.toArray w hh (by simpa using hl) h1
  simp only [ZP] at h3
  simp [Instr.storeAt, Instr.sureAddr, storeVar, hv, h2, h3]
theorem op_storeaggbox (E : Env a n l) {t : TypeId} {b off k m : Nat} {cs xs cs' : List Value} {T : TypeId} {v : Value} (h : opAt ops n i l = some (.run d (nu (Instr.storeAt t (.pointer (some ⟨b, off, none⟩)) v))))
    (H : Ev w0 L0 w L) (hk : L[k]? = some (.box b cs T)) (hv : v.cells = xs.toArray) (hm : xs.length = m) (hl : off + m ≤ cs.length) (hs : (fun w => (sizeOf t).run P w) = fun w => .ok m w) (h1 : ∀ u ∈ xs, u.oneCell' = true)
    (hc : cs.take off ++ xs ++ cs.drop (off + m) = cs') {L' : List Ent} (hL : L.set k (.box b cs' T) = L')
    (next : ∀ a' w', Env a' n (putl d undef l) → Ev w0 L0 w' L' → K a' w') : wpOp P ops Q i K a w := by
  subst hm hc hL
  exact any_unit E h (run_nu (run_storeAgg hv hs H.heap hk hl h1)) fun a' E' => next a' _ E' (H.trans (H.heap.setRange hk))
theorem run_indexval {t e : TypeId} {m j : Nat} {k : IntKind} {ix : Int} {cs : List Value} {v : Value} (hu : P.underlying t = some (.array m e)) (hs : (fun w => (sizeOf e).run P w) = fun w => .ok 1 w) (ha : (fun w => (isAgg e).run P w) = fun w => .ok false w) (hj : ix = (j : Int)) (h1 : j < m) (hv : cs[j]? = some v) (w : World) :
    (Instr.index t (.agg cs.toArray) (.int k ix)).run P w = .ok v w := by
  have hs' : (sizeOf e).run P w = .ok 1 w := congrFun hs w
  have ha' : (isAgg e).run P w = .ok false w := congrFun ha w
  subst hj
  have h2 : ((j : Int)) < (m : Int) := by omega
  simp [Instr.index, asIntOf, run_underlying hu, h1, hs', part, ha', hv]
theorem Heap.readsBox {k b off m : Nat} {cs xs : List Value} {T : TypeId} (h : Heap w L) (hk : L[k]? = some (.box b cs T)) (hx : (cs.drop off).take m = xs) : Reads w (some ⟨b, off, none⟩) xs := h.cells hk hx
set_option linter.unusedSimpArgs false in
theorem op_slicearr (E : Env a n l) {t e : TypeId} {sz m lo hi b off : Nat} {lov hiv : Option Value} (h : opAt ops n i l = some (.run d (nv (Instr.sliceAt t (.pointer (some ⟨b, off, none⟩)) lov hiv none))))
    (hu : P.underlying t = some (.array m e)) (hs : (fun w => (sizeOf e).run P w) = fun w => .ok sz w) (h1 : lo ≤ hi) (h2 : hi ≤ m) (h3 : lo < m)
    (hlo : lov = none ∧ lo = 0 ∨ ∃ k, lov = some (.int k lo)) (hhi : hiv = none ∧ hi = m ∨ ∃ k, hiv = some (.int k hi)) {o : Nat} (ho : off + lo * sz = o)
    (next : ∀ a', Env a' n (putl d (.slice (some ⟨b, o, none⟩) (hi - lo) (m - lo)) l) → K a' w) : wpOp P ops Q i K a w := by
  have hs' : (sizeOf e).run P w = .ok sz w := congrFun hs w
  have h4 : ¬ m = lo := by omega
  subst ho
  refine op_val E h (v := .slice (some ⟨b, off + lo * sz, none⟩) (hi - lo) (m - lo)) ?_ next
  rcases hlo with ⟨rfl, rfl⟩ | ⟨k, rfl⟩ <;> rcases hhi with ⟨rfl, rfl⟩ | ⟨k', rfl⟩ <;>
    simp [Instr.sliceAt, Instr.sureAddr, Instr.sliceBounds, Instr.sliceBound, run_underlying hu, asIntOf, hs', h1, h2, h4, add_off] <;> omega
end
end Go.Dbr
namespace Go.Dbr
open Go Go.RowKit
def eqOp (op : BinOp) (t : TypeId) (a b : Operand) (x y : Value) : Sem Value := do eqGuard op t a b x y; binOp op t x y
theorem bys_getD {l : List UInt8} {j : Nat} (h : j < l.length) : (bys l)[j]? = some (bv (l.getD j 0)) := by rw [bys_get h]; simp [zb, h]
theorem bys_replicate (m : Nat) : bys (zd m 0) = zd m (bv 0) := by simp [bys]
theorem u32s_getD {l : List UInt32} {j : Nat} (h : j < l.length) : (u32s l)[j]? = some (uv32 (l.getD j 0)) := by rw [u32s_get h]; simp [zb, h]
theorem u64s_getD {l : List UInt64} {j : Nat} (h : j < l.length) : (u64s l)[j]? = some (uv64 (l.getD j 0)) := by rw [u64s_get h]; simp [zb, h]
section
variable {P : Program} {ops : Array Oper} {Q : Exit → Act → World → Prop} {n i : Nat} {l : List (Nat × Value)} {a : Act} {w w0 : World} {d : Option Tmp} {L L0 : List Ent} {K : Act → World → Prop}
theorem madeCells_one {z : Value} (m : Nat) (hz : z.cells = #[z]) : madeCells z.cells m = (zd m z).toArray := by
  rw [hz]
  apply Array.ext_getElem?
  intro j
  unfold madeCells
  simp only [Array.getElem?_map, XK, List.getElem?_replicate]
  by_cases h : j < m
  · rw [if_pos h, Array.getElem?_eq_getElem (by simpa using h)]
    simp [Nat.mod_one]
  · rw [if_neg h, Array.getElem?_eq_none (by simpa using h)]
    rfl
theorem op_makeslice (E : Env a n l) {t T m : Nat} {kl kc : IntKind} {z : Value} {bytes : Nat} (h : opAt ops n i l = some (.run d (nv (Instr.makeSlice t (.int kl ((m : Nat) : Int)) (.int kc ((m : Nat) : Int)))))) (H : Ev w0 L0 w L)
    (ht : P.underlying t = some (.slice T)) (hti : (P.info? T).map (fun i => (i.zero, i.size, i.bytes)) = some (some z, 1, bytes)) (hz : z.cells = #[z]) (hb : bytes * m ≤ 281474976710656) (h63 : m ≤ maxLen)
    (next : ∀ a' w' b, Env a' n (putl d (.slice (some ⟨b, 0, none⟩) m m) l) → Ev w0 L0 w' (L ++ [.vec (some ⟨b, 0, none⟩) m 1 (zd m z) T]) → K a' w') : wpOp P ops Q i K a w := by
  obtain ⟨ti, hi, hz', hsz, hby⟩ : ∃ ti, P.info? T = some ti ∧ ti.zero = some z ∧ ti.size = 1 ∧ ti.bytes = bytes := by
    cases hi : P.info? T with
    | none => simp [hi] at hti
    | some ti => simp only [hi, Q1, Option.some.injEq, Prod.mk.injEq] at hti; exact ⟨ti, rfl, hti.1, hti.2.1, hti.2.2⟩
  subst hby
  have hr := run_make (P := P) w t T ti z ht hi hz' kl kc m m (by omega) (by omega) (by
    have h : ((ti.bytes * m : Nat) : Int) ≤ 281474976710656 := by omega
    rwa [YF] at h) (by have := h63; simp only [maxLen] at this; omega)
  simp only [Int.toNat_natCast, hsz, zI] at hr
  rw [madeCells_one _ hz] at hr
  exact any_run E h (run_nv hr) fun a' E' => next a' _ _ E' (H.trans (H.heap.newVec (T := T) (n := m) (sz := 1) (zd m z) (by simp) h63))
theorem some_of {ao : Option Addr} {m j : Nat} (hz : ao = none → m = 0) (h : j < m) : ∃ ad, ao = some ad := by
  cases ao with
  | none => have := hz rfl; omega
  | some ad => exact ⟨ad, rfl⟩
theorem run_indexsl {t e : TypeId} {sz len cap j jo : Nat} {k : IntKind} {ix : Int} {ao : Option Addr} {ad : Addr} (had : ao = some ad) (hu : P.underlying t = some (.slice e)) (hs : (fun w => (sizeOf e).run P w) = fun w => .ok sz w) (hj : ix = (j : Int)) (h1 : j < len) (hjo : j * sz = jo) (w : World) :
    (Instr.indexAt t (.slice ao len cap) (.int k ix)).run P w = .ok (.pointer (some (ad.add jo))) w := by
  subst had hjo hj
  have := run_indexAt (w := w) (k := k) hu hs ad len cap ((j : Nat) : Int) (by omega) (by omega)
  simpa using this
theorem run_indexarr {t e : TypeId} {sz m j b off o : Nat} {k : IntKind} {ix : Int} (hu : P.underlying t = some (.array m e)) (hs : (fun w => (sizeOf e).run P w) = fun w => .ok sz w) (hj : ix = (j : Int)) (h1 : j < m) (ho : off + j * sz = o) (w : World) :
    (Instr.indexAt t (.pointer (some ⟨b, off, none⟩)) (.int k ix)).run P w = .ok (.pointer (some ⟨b, o, none⟩)) w := by
  have hs' : (sizeOf e).run P w = .ok sz w := congrFun hs w
  subst ho hj
  have h2 : ((j : Int)) < (m : Int) := by omega
  have h3 : (0 : Int) ≤ (j : Int) := by omega
  simp [Instr.indexAt, asIntOf, run_underlying hu, Instr.sureAddr, h1, hs', add_off]
theorem run_eqItems_int {e : TypeId} {k : IntKind} (he : P.underlying e = some (.int k)) (ha : (fun w => (isAgg e).run P w) = fun w => .ok false w) (dd : Nat) (xs ys : List Int) :
    ∀ (is : List Nat), (∀ j ∈ is, j < xs.length ∧ j < ys.length) → (Op.eqItems (dd + 1) e 1 (xs.map (Value.int k)).toArray (ys.map (Value.int k)).toArray is).run P w = .ok (is.all fun j => xs[j]? == ys[j]?) w
  | [], _ => by simp [Op.eqItems]
  | j :: is, h => by
    have ha' : (isAgg e).run P w = .ok false w := congrFun ha w
    obtain ⟨h1, h2⟩ := h j (by simp)
    have ih := run_eqItems_int he ha dd xs ys is (fun q hq => h q (by simp [hq]))
    have p1 : (part e (xs.map (Value.int k)).toArray (j * 1)).run P w = .ok (.int k xs[j]) w := by
      simp [part, ha', h1]
    have p2 : (part e (ys.map (Value.int k)).toArray (j * 1)).run P w = .ok (.int k ys[j]) w := by
      simp [part, ha', h2]
    have p3 : (Op.equalIn (dd + 1) e (.int k xs[j]) (.int k ys[j])).run P w = .ok (xs[j] == ys[j]) w := by
      unfold Op.equalIn
      simp only [Sem.run_bind, run_underlying he, Result.andThen]
      simp
    simp only [Op.eqItems, Sem.run_bind, p1, p2, p3, Result.andThen_ok]
    have e1 : (xs[j]? == ys[j]?) = (xs[j] == ys[j]) := by rw [z3 h1, z3 h2]; rfl
    rw [List.all_cons, e1]
    cases (xs[j] == ys[j])
    · simp
    · simpa using ih
theorem all_get {xs ys : List Int} {n : Nat} (hx : xs.length = n) (hy : ys.length = n) : ((Q3 n).all fun j => xs[j]? == ys[j]?) = (xs == ys) := by
  rw [Ko, z7, beq_iff_eq]
  constructor
  · intro h
    apply YQ
    intro j
    by_cases hj : j < n
    · simpa using h j (by simpa using hj)
    · rw [ZR (by omega), ZR (by omega)]
  · rintro rfl j _
    simp
theorem run_equalarr {t e : TypeId} {k : IntKind} {m : Nat} (hu : P.underlying t = some (.array m e)) (he : P.underlying e = some (.int k)) (ha : (fun w => (isAgg e).run P w) = fun w => .ok false w) (hc : P.cellsOf e = 1) (xs ys : List Int) (hx : xs.length = m) (hy : ys.length = m) (w : World) :
    (Op.equal t (.agg (xs.map (Value.int k)).toArray) (.agg (ys.map (Value.int k)).toArray)).run P w = .ok (xs == ys) w := by
  obtain ⟨ti, hi⟩ : ∃ ti, P.info? e = some ti := by
    cases hi : P.info? e with
    | none => simp [Program.cellsOf, hi] at hc
    | some ti => exact ⟨ti, rfl⟩
  show (Op.equalIn (9998 + 1 + 1) t _ _).run P w = _
  rw [run_equalIn_array _ _ _ _ hu hi, hc, run_eqItems_int he ha 9998 xs ys _ (fun j hj => by have := List.mem_range.1 hj; omega), all_get hx hy]
theorem u64s_ints (l : List UInt64) : u64s l = (l.map fun x => ((zk x : Nat) : Int)).map (Value.int .u64) := by simp [u64s, uv64]
theorem u64s_inj (l m : List UInt64) : ((l.map fun x => ((zk x : Nat) : Int)) == (m.map fun x => ((zk x : Nat) : Int))) = (l == m) := by
  rw [Ko, beq_iff_eq, beq_iff_eq]
  constructor
  · intro h
    exact List.map_inj_right (fun x y e => UInt64.toNat_inj.1 (by omega)) |>.1 h
  · rintro rfl; rfl
theorem u64s_eqarr {t e : TypeId} {m : Nat} (hu : P.underlying t = some (.array m e)) (he : P.underlying e = some (.int .u64)) (ha : (fun w => (isAgg e).run P w) = fun w => .ok false w) (hc : P.cellsOf e = 1) {x y : List UInt64} (hx : x.length = m) (hy : y.length = m) (w : World) :
    (binOp .eql t (.agg (u64s x).toArray) (.agg (u64s y).toArray)).run P w = .ok (.bool (x == y)) w := by
  show ((do pure (Value.bool (← Op.equal t (.agg (u64s x).toArray) (.agg (u64s y).toArray)))) : Sem Value).run P w = _
  rw [u64s_ints, u64s_ints]
  simp only [Sem.run_bind, run_equalarr hu he ha hc (x.map fun q => ((zk q : Nat) : Int)) (y.map fun q => ((zk q : Nat) : Int)) (by simpa using hx) (by simpa using hy), Result.andThen, Sem.run_pure, u64s_inj]
theorem u64s_nearr {t e : TypeId} {m : Nat} (hu : P.underlying t = some (.array m e)) (he : P.underlying e = some (.int .u64)) (ha : (fun w => (isAgg e).run P w) = fun w => .ok false w) (hc : P.cellsOf e = 1) {x y : List UInt64} (hx : x.length = m) (hy : y.length = m) (w : World) :
    (binOp .neq t (.agg (u64s x).toArray) (.agg (u64s y).toArray)).run P w = .ok (.bool (!(x == y))) w := by
  show ((do pure (Value.bool (!(← Op.equal t (.agg (u64s x).toArray) (.agg (u64s y).toArray))))) : Sem Value).run P w = _
  rw [u64s_ints, u64s_ints]
  simp only [Sem.run_bind, run_equalarr hu he ha hc (x.map fun q => ((zk q : Nat) : Int)) (y.map fun q => ((zk q : Nat) : Int)) (by simpa using hx) (by simpa using hy), Result.andThen, Sem.run_pure, u64s_inj]
theorem u64s_eqop {t e : TypeId} {m : Nat} {a b : Operand} (hg : P.eqGuardType P.depth t = false) (hu : P.underlying t = some (.array m e)) (he : P.underlying e = some (.int .u64)) (ha : (fun w => (isAgg e).run P w) = fun w => .ok false w) (hc : P.cellsOf e = 1) {x y : List UInt64} (hx : x.length = m) (hy : y.length = m) (w : World) :
    (eqOp .eql t a b (.agg (u64s x).toArray) (.agg (u64s y).toArray)).run P w = .ok (.bool ((x == y))) w := by
  simp only [eqOp, Sem.run_bind, run_eqGuard_agg w _ _ _ _ _ _ hg, Result.andThen_ok, u64s_eqarr hu he ha hc hx hy]
theorem u64s_neop {t e : TypeId} {m : Nat} {a b : Operand} (hg : P.eqGuardType P.depth t = false) (hu : P.underlying t = some (.array m e)) (he : P.underlying e = some (.int .u64)) (ha : (fun w => (isAgg e).run P w) = fun w => .ok false w) (hc : P.cellsOf e = 1) {x y : List UInt64} (hx : x.length = m) (hy : y.length = m) (w : World) :
    (eqOp .neq t a b (.agg (u64s x).toArray) (.agg (u64s y).toArray)).run P w = .ok (.bool (!(x == y))) w := by
  simp only [eqOp, Sem.run_bind, run_eqGuard_agg w _ _ _ _ _ _ hg, Result.andThen_ok, u64s_nearr hu he ha hc hx hy]
end
end Go.Dbr
