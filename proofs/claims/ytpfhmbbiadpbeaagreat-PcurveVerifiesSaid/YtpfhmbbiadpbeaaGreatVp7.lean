import Derived.Test.YtpfhmbbiadpbeaaGreatVp5
import Derived.Test.YtpfhmbbiadpbeaaGreatVp6
import Derived.Laws.StructEq
import Derived.Laws.Tables
open Go.Dbr renaming u64s_lenh → za, then_normal → ze, u64s → zg, region_from → zj, load_whole → zn, len_app → zp, u64s_one → zq, d_cell1 → zU, m_gw → zW, look → QB, opTy → Yo, nodupO_spec → Yz, look_self → Jl, u64s_length → Jm, nodupO → Xj, zeroV → Ks
open List renaming toArray → zc, replicate → zd, length → zf, length_replicate → zh, drop_append → zu, take_append → zv, take_of_length_le → zx, length_append → zE, getD_eq_getElem?_getD → zT, getElem?_append_left → zY, all_eq_true → z7, getElem?_append_right → Ze, contains_iff_mem → Zl, map_append → Qk, append_assoc → Qo, map_cons → Qs, mem_cons → Qt, mem_cons_of_mem → QA, mem_range → QH, mem_cons_self → QV, range → Q3, mem_append → Q4, drop_succ_cons → Q8, mem_map → YX, not_mem_nil → JF, append_nil → JP, nodup_cons → JR, drop_zero → J5, nodup_append → Xc, map_map → Xu, nil_append → XF, length_singleton → XL, mem_append_right → XM, nodup_nil → XT, take_left → XU, mem_map_of_mem → X4, countP_cons → Kk, drop_left → Kv, map_nil → KC
open Go.Proofs.YtpfhmbbiadpbeaaGreat renaming nds_len → zl, mulM → zo, subM → zZ, addM → z5
open Go.Proofs.Tryz renaming prog → zB
open Go.Dbr.Ev renaming cellAgg → zC, drew → zN
open Bool renaming and_eq_true → zJ, cond_false → Zc, cond_true → ZF, or_eq_true → Yg, false_eq_true → J1
open Array renaming getElem?_setIfInBounds_ne → Zm, getElem?_toList → Zu, getElem?_eq_some_iff → Zx, all_eq_true_iff_forall_mem → QJ, ext → KH
open Nat renaming lt_or_ge → Qa, beq → Qn, testBit → Yl, testBit_or → YW, beq_eq → Jk, add_sub_cancel_left → Xr
set_option maxRecDepth 100000
set_option maxHeartbeats 2000000
set_option linter.unusedVariables false
set_option linter.unusedSimpArgs false
namespace Go.Dbr
open Go Go.RowKit
def cloStep (acc : List Nat) : List Edge → Nat
  | [] => 0
  | e :: r => bif Region.binds .any e then 2 ^ e.on ||| acc.getD e.on 0 ||| cloStep acc r else cloStep acc r
def clo : List Oper → List Nat → List Nat
  | [], acc => acc
  | o :: r, acc => clo r (acc ++ [cloStep acc o.after.toList])
theorem cloStep_spec {acc : List Nat} {i : Nat} : ∀ (es : List Edge), Yl (cloStep acc es) i = true → ∃ e ∈ es, Region.binds .any e = true ∧ (e.on = i ∨ Yl (acc.getD e.on 0) i = true)
  | [], h => by simp [cloStep] at h
  | e :: r, h => by
    unfold cloStep at h
    cases hb : Region.binds .any e with
    | true =>
      rw [hb, ZF, YW, YW, Yg, Yg] at h
      rcases h with (h | h) | h
      · refine ⟨e, QV .., hb, .inl ?_⟩
        rw [Nat.testBit_two_pow] at h
        exact of_decide_eq_true h
      · exact ⟨e, QV .., hb, .inr h⟩
      · obtain ⟨e', he, hr⟩ := cloStep_spec r h
        exact ⟨e', QA _ he, hr⟩
    | false =>
      rw [hb, Zc] at h
      obtain ⟨e', he, hr⟩ := cloStep_spec r h
      exact ⟨e', QA _ he, hr⟩
theorem WaitsT.of {ops : Array Oper} {i s : Nat} {o : Oper} {e : Edge} (ho : ops[s]? = some o) (he : e ∈ o.after) (hb : Region.binds .any e = true) (h : e.on = i ∨ WaitsT ops i e.on) : WaitsT ops i s := h.elim (.one ho he hb) (.step ho he hb)
theorem clo_spec {ops : Array Oper} {i : Nat} : ∀ (l : List Oper) (acc : List Nat), (∀ (k : Nat) (o : Oper), l[k]? = some o → ops[acc.length + k]? = some o) → (∀ j, Yl (acc.getD j 0) i = true → WaitsT ops i j) → ∀ j, Yl ((clo l acc).getD j 0) i = true → WaitsT ops i j
  | [], acc, _, h, j, hj => h j hj
  | o :: r, acc, hl, h, j, hj => by
    refine clo_spec r (acc ++ [cloStep acc o.after.toList]) (fun k o' hk => ?_) (fun j' hj' => ?_) j hj
    · have := hl (k + 1) o' (by simpa using hk)
      rw [zE, XL]
      rw [show acc.length + (k + 1) = acc.length + 1 + k by omega] at this
      exact this
    · rcases Nat.lt_trichotomy j' acc.length with c | c | c
      · rw [zT, zY c, ← zT] at hj'
        exact h j' hj'
      · subst c
        rw [zT, Ze (Nat.le_refl _), Nat.sub_self] at hj'
        obtain ⟨e, he, hb, hr⟩ := cloStep_spec _ hj'
        have ho := hl 0 o rfl
        rw [Nat.add_zero] at ho
        exact .of ho (by simpa using he) hb (hr.imp id (h _))
      · rw [zT, List.getElem?_eq_none (by rw [zE, XL]; omega)] at hj'
        simp at hj'
def maskOf : List Nat → Nat
  | [] => 0
  | i :: r => 2 ^ i ||| maskOf r
theorem maskOf_spec {i : Nat} : ∀ {l : List Nat}, i ∈ l → Yl (maskOf l) i = true
  | j :: r, h => by
    unfold maskOf
    rw [YW]
    rcases Qt.1 h with rfl | h'
    · rw [Nat.testBit_two_pow_self, Bool.true_or]
    · rw [maskOf_spec h', Bool.or_true]
def restB (I : List Nat) (m : Nat) : List Nat → Nat → Bool
  | [], _ => true
  | c :: r, j => (I.contains j || Qn (m &&& c) m) && restB I m r (j + 1)
theorem restB_spec {I : List Nat} {m : Nat} : ∀ (l : List Nat) (k : Nat), restB I m l k = true → ∀ (j : Nat) (c : Nat), l[j]? = some c → I.contains (k + j) = true ∨ m &&& c = m
  | [], k, _, j, c, h => by simp at h
  | x :: r, k, h, j, c, hc => by
    unfold restB at h
    simp only [zJ, Yg, Jk] at h
    cases j with
    | zero => simp at hc; subst hc; exact h.1
    | succ j =>
      have := restB_spec r (k + 1) h.2 j c (by simpa using hc)
      rwa [show k + 1 + j = k + (j + 1) by omega] at this
def inB (ops : Array Oper) (I : List Nat) (l0 : List (Nat × Value)) (i : Nat) : Bool := match ops[i]? with
  | some o => (o.after.all fun e => !Region.binds .any e || (Nat.blt e.on i && I.contains e.on)) && (match o.dst with | some d => (QB l0 d).isNone | none => true)
  | none => false
def stabB (ops : Array Oper) (I : List Nat) (l0 : List (Nat × Value)) : Bool := Xj ops.toList 0 && (I.all fun i => inB ops I l0 i) && restB I (maskOf I) (clo ops.toList []) 0 && Qn (clo ops.toList []).length ops.size
def srcOf (ops : Array Oper) (l0 L : List (Nat × Value)) (i t : Nat) : Option Value := match ops[i]? with
  | some o => bif (o.after.any fun e => Region.binds .any e && (match ops[e.on]? with | some q => (match q.dst with | some c => Qn c t | none => false) | none => false)) then QB L t else QB l0 t
  | none => none
def oneL (ops : Array Oper) (L : List (Nat × Value)) (i : Nat) : List (Nat × Value) := match ops[i]? with
  | some o => (match o.dst with | some d => [(d, (QB L d).getD undef)] | none => [])
  | none => []
theorem leastN {P : Nat → Prop} : ∀ n, P n → ∃ k, P k ∧ ∀ j, j < k → ¬ P j := fun n => by
  induction n using Nat.strongRecOn with
  | _ n ih =>
    intro h
    by_cases e : ∃ j, j < n ∧ P j
    · obtain ⟨j, hj, hp⟩ := e
      exact ih j hj hp
    · exact ⟨n, h, fun j hj hp => e ⟨j, hj, hp⟩⟩
theorem look_map_some2 {f : Nat → Option Value} {l : List (Nat × Value)} (h : l.map (fun p => f p.1) = l.map (fun p => some p.2)) : ∀ i v, QB l i = some v → f i = some v := by
  induction l with
  | nil => intro i v hv; cases hv
  | cons x r ih =>
    intro i v hv
    simp only [Qs, List.cons.injEq] at h
    unfold QB at hv
    cases hb : Qn x.1 i with
    | true =>
      rw [hb, ZF] at hv
      cases hv
      have := Nat.eq_of_beq_eq_true hb
      rw [← this]
      exact h.1
    | false =>
      rw [hb, Zc] at hv
      exact ih h.2 i v hv
section
variable {P : Program} {ops : Array Oper} {Q : Exit → Act → World → Prop} {n : Nat} {S : World → Prop} {l0 L : List (Nat × Value)} {I : List Nat}
def Stab (P : Program) (ops : Array Oper) (Q : Exit → Act → World → Prop) (n : Nat) (S : World → Prop) (l0 L : List (Nat × Value)) (i : Nat) : Prop :=
  ∃ E : List (Nat × Value), E.map (fun p => srcOf ops l0 L i p.1) = E.map (fun p => some p.2) ∧ ∀ a w, Env a n E → S w → wpOp P ops Q i (fun a' w' => Env a' n (oneL ops L i) ∧ S w') a w
structure Know (ops : Array Oper) (n : Nat) (l0 L : List (Nat × Value)) (I : List Nat) (a : Act) (listed : Array Bool) : Prop where
  size : a.tmps.size = n
  defers : a.defers = []
  old : ∀ t v, QB l0 t = some v → a.tmps[t]? = some v
  new : ∀ i o d, i ∈ I → ops[i]? = some o → o.dst = some d → listed.getD i false = true → a.tmps[d]? = some ((QB L d).getD undef)
theorem wpOp_put {i : Nat} {a : Act} {w : World} {K : Act → World → Prop} {o : Oper} (ho : ops[i]? = some o) (hd : ∀ a' w', K a' w' → a'.defers = []) (h : wpOp P ops Q i K a w) : wpOp P ops Q i (fun a' w' => K a' w' ∧ ∃ v, a' = a.put o.dst v) a w := by
  unfold wpOp at *
  simp only [ho] at h ⊢
  split
  · rename_i hw
    simp only [hw, if_true] at h
    refine h.imp (fun hh => ?_) id
    unfold Oper.wp at *
    generalize (execOp a.eval o).run P w = r at *
    cases r with
    | ok nx w' =>
      cases nx <;> simp only [Oper.upon] at hh ⊢
      all_goals first
        | exact ⟨hh, _, rfl⟩
        | exact Calls.mono hh (fun e w'' he => by cases e <;> first | exact ⟨he, _, rfl⟩ | exact he)
        | exact Rows.mono hh (fun _ _ he => ⟨he, _, rfl⟩)
        | (have := hd _ _ hh; cases hdst : o.dst <;> simp [Act.put, hdst] at this)
        | exact hh
    | halt x w' => cases x <;> simp only [Oper.upon] at hh ⊢ <;> exact hh
  · rename_i hw
    simp only [hw] at h
    exact ⟨h, _, rfl⟩
def cntF (l : Array Bool) : Nat := l.toList.countP fun b => !b
theorem cnt_set {l : List Bool} : ∀ {i : Nat}, l[i]? = some false → (l.set i true).countP (fun b => !b) + 1 = l.countP fun b => !b := by
  induction l with
  | nil => intro i h; simp at h
  | cons x r ih =>
    intro i h
    cases i with
    | zero =>
      simp at h
      subst h
      simp [Kk]
    | succ i =>
      have := ih (i := i) (by simpa using h)
      simp only [List.set_cons_succ, Kk]
      omega
theorem cntF_set {l : Array Bool} {i : Nat} (h : l.getD i true = false) : cntF (l.setIfInBounds i true) + 1 = cntF l := by
  have hi : i < l.size := by
    rcases Qa i l.size with g | g
    · exact g
    · simp [g] at h
  have e : l.toList[i]? = some false := by
    simp [hi] at h
    simp [hi, h]
  have := cnt_set e
  unfold cntF
  rw [Array.toList_setIfInBounds]
  exact this
def LI (ops : Array Oper) (I : List Nat) : Array Bool := ((Q3 ops.size).map fun j => I.contains j).toArray
def envI (ops : Array Oper) (l0 L : List (Nat × Value)) (i : Nat) : List (Nat × Value) := match ops[i]? with
  | some o => (o.looksAt ops).map fun t => (t, (srcOf ops l0 L i t).getD undef)
  | none => []
theorem stab_go {J : Array Bool → Act → World → Prop} (hB : stabB ops I l0 = true)
    (step : ∀ i ∈ I, ∀ (listed : Array Bool) (a : Act) (w : World) (o : Oper), ops[i]? = some o → listed.size = ops.size → listed.getD i true = false → (∀ e ∈ o.after, Region.binds .any e = true → e.on ∈ I ∧ listed.getD e.on false = true) → (∀ d, o.dst = some d → QB l0 d = none) → J listed a w → wpOp P ops Q i (fun a' w' => J (listed.setIfInBounds i true) a' w') a w)
    (next : ∀ a w, J (LI ops I) a w → wpAny P .any ops Q (cntF (LI ops I)) (LI ops I) a w) :
    ∀ (m : Nat) (listed : Array Bool) (a : Act) (w : World), m = cntF listed → listed.size = ops.size → (∀ j, listed.getD j false = true → j ∈ I) → Closed ops listed → J listed a w → wpAny P .any ops Q m listed a w := by
  have hB' := hB
  unfold stabB at hB'
  simp only [zJ, z7, Jk] at hB'
  obtain ⟨⟨⟨hnd, hin⟩, hrest⟩, hlen⟩ := hB'
  have inS : ∀ i ∈ I, ∃ o, ops[i]? = some o ∧ (∀ e ∈ o.after, Region.binds .any e = true → e.on < i ∧ e.on ∈ I) ∧ ∀ d, o.dst = some d → QB l0 d = none := fun i hi => by
    have h := hin i hi
    unfold inB at h
    cases ho : ops[i]? with
    | none => rw [ho] at h; cases h
    | some o =>
      rw [ho] at h
      simp only [zJ] at h
      refine ⟨o, rfl, fun e he hb => ?_, fun d hd => ?_⟩
      · have h1 := (QJ.1 h.1) e he
        rw [hb] at h1
        simp only [Bool.not_true, Bool.false_or, zJ, Nat.blt_eq] at h1
        exact ⟨h1.1, Zl.1 h1.2⟩
      · have h2 := h.2
        rw [hd] at h2
        exact Option.isNone_iff_eq_none.1 h2
  intro m
  induction m with
  | zero =>
    intro listed a w hm hs hsub hcl hk
    have hall : ∀ j, j < ops.size → listed.getD j false = true := fun j hj => by
      cases h : listed.getD j false with
      | true => rfl
      | false =>
        have : listed.getD j true = false := by
          have hj' : j < listed.size := by omega
          simp [hj'] at h ⊢
          exact h
        have := cntF_set this
        omega
    have e : listed = LI ops I := by
      refine KH (by simp [LI, hs]) fun j h1 h2 => ?_
      have h3 := hall j (by omega)
      have h4 := hsub j h3
      simp [h1] at h3
      simp [LI, h3, Zl, h4]
    subst e
    rw [hm]
    exact next a w hk
  | succ m ih =>
    intro listed a w hm hs hsub hcl hk
    by_cases hall : ∀ i ∈ I, listed.getD i false = true
    · have e : listed = LI ops I := by
        refine KH (by simp [LI, hs]) fun j h1 h2 => ?_
        by_cases hj : j ∈ I
        · have h3 := hall j hj
          simp [h1] at h3
          simp [LI, h3, Zl, hj]
        · cases h3 : listed.getD j false with
          | true => exact absurd (hsub j h3) hj
          | false =>
            simp [h1] at h3
            simp [LI, h3, Zl, hj]
      subst e
      rw [hm]
      exact next a w hk
    · have ⟨i0, h0⟩ : ∃ i, i ∈ I ∧ listed.getD i false = false := Classical.byContradiction fun hno => hall fun i hi => by
        cases h : listed.getD i false with
        | true => rfl
        | false => exact absurd ⟨i, hi, h⟩ hno
      obtain ⟨k, ⟨hkI, hku⟩, hmin⟩ := Go.Dbr.leastN (P := fun i => i ∈ I ∧ listed.getD i false = false) i0 h0
      obtain ⟨ok, hok, hafk, _⟩ := inS k hkI
      have hkt : listed.getD k true = false := by
        have : k < listed.size := by rw [hs]; exact (Zx.1 hok).1
        simp [this] at hku ⊢
        exact hku
      have hkr : k ∈ Region.ready .any ops listed := mem_ready.2 ⟨hkt, ok, hok, fun e he hb => by
        obtain ⟨h1, h2⟩ := hafk e he hb
        cases h : listed.getD e.on false with
        | true => rfl
        | false => exact absurd ⟨h2, h⟩ (hmin _ h1)⟩
      refine ⟨fun hr => absurd hkr (by rw [hr]; exact JF), fun i hi => ?_⟩
      obtain ⟨hiu, o, ho, haf⟩ := mem_ready.1 hi
      have hiI : i ∈ I := Classical.byContradiction fun hno => by
        have hib := (Zx.1 ho).1
        have hc : (clo ops.toList [])[i]? = some ((clo ops.toList []).getD i 0) := by
          rw [zT, List.getElem?_eq_getElem (by omega)]
          rfl
        rcases restB_spec _ 0 hrest i _ hc with h | h
        · rw [Nat.zero_add] at h
          exact hno (Zl.1 h)
        · have hb := maskOf_spec hkI
          rw [← h, Nat.testBit_and, zJ] at hb
          have hw := clo_spec (ops := ops) (i := k) ops.toList [] (fun j o' hj => by simpa using hj) (fun j hj => by simp at hj) i hb.2
          have := hw.no hcl o ho haf
          rw [hku] at this
          cases this
      obtain ⟨o', ho', hafI, hdn⟩ := inS i hiI
      rw [ho] at ho'
      cases ho'
      refine wpOp_mono (fun a' w' h => ?_) (step i hiI listed a w o ho hs hiu (fun e he hb => ⟨(hafI e he hb).2, haf e he hb⟩) hdn hk)
      exact ih (listed.setIfInBounds i true) a' w' (by have := cntF_set hiu; omega) (by simp [hs]) (fun j hj => by
        by_cases e : i = j
        · exact e ▸ hiI
        · refine hsub j ?_
          simp [Zm e] at hj ⊢
          exact hj) (hcl.set hi) h
theorem stab_step (hnd : Xj ops.toList 0 = true) {i : Nat} {listed : Array Bool} {a : Act} {w : World} {o : Oper} (hiI : i ∈ I) (hst : Stab P ops Q n S l0 L i) (ho : ops[i]? = some o) (hs : listed.size = ops.size) (hiu : listed.getD i true = false)
    (haf : ∀ e ∈ o.after, Region.binds .any e = true → e.on ∈ I ∧ listed.getD e.on false = true) (hdn : ∀ d, o.dst = some d → QB l0 d = none) (hk : Know ops n l0 L I a listed) (hS : S w) :
    wpOp P ops Q i (fun a' w' => Know ops n l0 L I a' (listed.setIfInBounds i true) ∧ S w' ∧ ∃ v, a' = a.put o.dst v) a w := by
  obtain ⟨E, hE, hrun⟩ := hst
  have env : Env a n E := ⟨hk.size, hk.defers, fun t v hv => by
    have h1 := look_map_some2 hE t v hv
    unfold srcOf at h1
    rw [ho] at h1
    simp only at h1
    cases hany : (o.after.any fun e => Region.binds .any e && (match ops[e.on]? with | some q => (match q.dst with | some c => Qn c t | none => false) | none => false)) with
    | true =>
      rw [hany, ZF] at h1
      obtain ⟨e, he, hb⟩ := Array.any_eq_true'.1 hany
      simp only [zJ] at hb
      cases hq : ops[e.on]? with
      | none => rw [hq] at hb; cases hb.2
      | some q =>
        rw [hq] at hb
        cases hc : q.dst with
        | none => simp [hc] at hb
        | some c =>
          simp only [hc, Jk] at hb
          have := hk.new e.on q t (haf e he hb.1).1 hq (by rw [hc, hb.2]) (haf e he hb.1).2
          rw [h1] at this
          exact this
    | false =>
      rw [hany, Zc] at h1
      exact hk.old t v h1⟩
  have hrun2 := wpOp_put ho (fun a' w' h => h.1.defers) (hrun a w env hS)
  refine wpOp_mono (fun a' w' h => ?_) hrun2
  obtain ⟨⟨hE', hS'⟩, v', rfl⟩ := h
  have keep : ∀ t, o.dst ≠ some t → (a.put o.dst v').tmps[t]? = a.tmps[t]? := fun t ht => by
    cases hd : o.dst with
    | none => rfl
    | some d =>
      have : d ≠ t := fun e => ht (by rw [hd, e])
      simp [Act.put, Zm this]
  refine ⟨⟨hE'.size, hE'.defers, fun t v hv => ?_, fun i' oi d hi' hoi hd hl => ?_⟩, hS', v', rfl⟩
  · rw [keep t (fun e => by rw [hdn t e] at hv; cases hv)]
    exact hk.old t v hv
  · by_cases e : i = i'
    · subst e
      rw [ho] at hoi
      cases hoi
      refine hE'.slot d _ ?_
      unfold oneL
      rw [ho]
      simp only [hd, Jl]
    · rw [keep d (fun g => e ((Yz _ _ hnd).2 i i' o oi d (by rw [Zu]; exact ho) (by rw [Zu]; exact hoi) g hd))]
      refine hk.new i' oi d hi' hoi hd ?_
      simp [Zm e] at hl ⊢
      exact hl
end
section
variable {P : Program} {ops : Array Oper} {Q : Exit → Act → World → Prop} {n : Nat} {l0 L : List (Nat × Value)} {I A : List Nat} {a : Act} {w w0 : World} {L0 Lh : List Ent}
def StabL (P : Program) (ops : Array Oper) (Q : Exit → Act → World → Prop) (n : Nat) (w0 : World) (L0 Lh : List Ent) (l0 L : List (Nat × Value)) : List Nat → Prop
  | [] => True
  | i :: r => (∀ M, Stab P ops Q n (fun wv => Ev w0 L0 wv (Lh ++ M)) l0 L i) ∧ StabL P ops Q n w0 L0 Lh l0 L r
theorem StabL.all : ∀ {I : List Nat}, StabL P ops Q n w0 L0 Lh l0 L I → ∀ i ∈ I, ∀ M, Stab P ops Q n (fun wv => Ev w0 L0 wv (Lh ++ M)) l0 L i
  | _ :: _, h, i, hi => (Qt.1 hi).elim (fun e => e ▸ h.1) (h.2.all i)
def srcE (ops : Array Oper) (I : List Nat) (l0 L : List (Nat × Value)) (t : Nat) : Option Value := bif I.any fun i => (match opD ops i with | some d => Qn d t | none => false) then QB L t else QB l0 t
theorem Know.env {listed : Array Bool} {l' : List (Nat × Value)} (k : Know ops n l0 L I a listed) (hl : ∀ i ∈ I, listed.getD i false = true) (h : l'.map (fun p => srcE ops I l0 L p.1) = l'.map (fun p => some p.2)) : Env a n l' := ⟨k.size, k.defers, fun t v hv => by
  have h1 := look_map_some2 h t v hv
  unfold srcE at h1
  cases hany : (I.any fun i => (match opD ops i with | some d => Qn d t | none => false)) with
  | true =>
    rw [hany, ZF] at h1
    obtain ⟨i, hi, hb⟩ := List.any_eq_true.1 hany
    unfold opD at hb
    cases ho : ops[i]? with
    | none => rw [ho] at hb; cases hb
    | some o =>
      rw [ho] at hb
      simp only at hb
      cases hd : o.dst with
      | none => rw [hd] at hb; cases hb
      | some d =>
        rw [hd] at hb
        simp only [Jk] at hb
        subst hb
        have := k.new i o d hi ho hd (hl i hi)
        rw [h1] at this
        exact this
  | false =>
    rw [hany, Zc] at h1
    exact k.old t v h1⟩
theorem put_keep {o : Oper} {v : Value} {t : Nat} (ht : o.dst ≠ some t) : (a.put o.dst v).tmps[t]? = a.tmps[t]? := by
  cases hd : o.dst with
  | none => rfl
  | some d =>
    have : d ≠ t := fun e => ht (by rw [hd, e])
    simp [Act.put, Zm this]
theorem Know.put {listed : Array Bool} {i : Nat} {o : Oper} {v : Value} (hnd : Xj ops.toList 0 = true) (hk : Know ops n l0 L I a listed) (ho : ops[i]? = some o) (hiI : i ∉ I) (hdn : ∀ d, o.dst = some d → QB l0 d = none) : Know ops n l0 L I (a.put o.dst v) (listed.setIfInBounds i true) := by
  refine ⟨?_, ?_, fun t v hv => ?_, fun i' oi d hi' hoi hd hl => ?_⟩
  · cases o.dst with
    | none => exact hk.size
    | some d => simp [Act.put, hk.size]
  · cases o.dst with
    | none => exact hk.defers
    | some d => exact hk.defers
  · rw [put_keep (fun e => by rw [hdn t e] at hv; cases hv)]
    exact hk.old t v hv
  · have e : i ≠ i' := fun e => hiI (e ▸ hi')
    rw [put_keep (fun g => e ((Yz _ _ hnd).2 i i' o oi d (by rw [Zu]; exact ho) (by rw [Zu]; exact hoi) g hd))]
    refine hk.new i' oi d hi' hoi hd ?_
    simp [Zm e] at hl ⊢
    exact hl
def Alc (ops : Array Oper) (A : List Nat) (cA : Nat → List Value) (tA : Nat → TypeId) (w0 : World) (L0 Lh : List Ent) (listed : Array Bool) (a : Act) (w : World) : Prop :=
  ∃ bs : List (Nat × Nat), (bs.map Prod.fst).Nodup ∧ (∀ i, i ∈ bs.map Prod.fst ↔ i ∈ A ∧ listed.getD i false = true) ∧ (∀ p ∈ bs, ∀ o d, ops[p.1]? = some o → o.dst = some d → a.tmps[d]? = some (.pointer (some ⟨p.2, 0, none⟩))) ∧ Ev w0 L0 w (Lh ++ bs.map fun p => .box p.2 (cA p.1) (tA p.1))
def alcB (ops : Array Oper) (I A : List Nat) : Bool := (I.all fun i => match ops[i]? with
    | some o => o.after.all fun e => !Region.binds .any e || I.contains e.on
    | none => false) && (A.all fun i => !I.contains i && (match opD ops i with | some _ => true | none => false)) && nodupB A
def dN (ops : Array Oper) (i : Nat) : Nat := (opD ops i).getD 0
theorem Alc.put {cA : Nat → List Value} {tA : Nat → TypeId} {listed : Array Bool} {i : Nat} {o : Oper} {v : Value} {w' : World} {bs : List (Nat × Nat)} (hnd : Xj ops.toList 0 = true) (ho : ops[i]? = some o) (hiA : i ∉ A)
    (h1 : (bs.map Prod.fst).Nodup) (h2 : ∀ i, i ∈ bs.map Prod.fst ↔ i ∈ A ∧ listed.getD i false = true) (h3 : ∀ p ∈ bs, ∀ o d, ops[p.1]? = some o → o.dst = some d → a.tmps[d]? = some (.pointer (some ⟨p.2, 0, none⟩))) (h4 : Ev w0 L0 w' (Lh ++ bs.map fun p => .box p.2 (cA p.1) (tA p.1))) :
    Alc ops A cA tA w0 L0 Lh (listed.setIfInBounds i true) (a.put o.dst v) w' := by
  refine ⟨bs, h1, fun j => ?_, fun p hp o' d ho' hd => ?_, h4⟩
  · rw [h2 j]
    by_cases e : i = j
    · subst e
      exact ⟨fun h => absurd h.1 hiA, fun h => absurd h.1 hiA⟩
    · simp [Zm e]
  · have hpA := ((h2 p.1).1 (X4 hp)).1
    have e : i ≠ p.1 := fun e => hiA (e ▸ hpA)
    rw [put_keep (fun g => e ((Yz _ _ hnd).2 i p.1 o o' d (by rw [Zu]; exact ho) (by rw [Zu]; exact ho') g hd))]
    exact h3 p hp o' d ho' hd
theorem Alc.step {cA : Nat → List Value} {tA : Nat → TypeId} {listed : Array Bool} {i : Nat} {o : Oper} (hnd : Xj ops.toList 0 = true) (ho : ops[i]? = some o) (hiA : i ∈ A) (hiI : i ∉ I) (hs : listed.size = ops.size) (hiu : listed.getD i true = false)
    (hdn : ∀ d, o.dst = some d → QB l0 d = none) (hk : Know ops n l0 L I a listed) (hA : Alc ops A cA tA w0 L0 Lh listed a w)
    (hop : opAt ops n i [] = some (.run (opD ops i) (nv (Instr.alloc (tA i) true (.tuple #[]))))) (hz : (fun w => (zeroValue (tA i)).run P w) = fun w => .ok (Ks P (tA i)) w) (hc : (Ks P (tA i)).cells.toList = cA i) (hsome : ∃ d, opD ops i = some d) :
    wpOp P ops Q i (fun a' w' => Know ops n l0 L I a' (listed.setIfInBounds i true) ∧ Alc ops A cA tA w0 L0 Lh (listed.setIfInBounds i true) a' w') a w := by
  obtain ⟨bs, h1, h2, h3, h4⟩ := hA
  have hil : i < listed.size := by rw [hs]; exact (Zx.1 ho).1
  have hif : listed.getD i false = false := by
    simp [hil] at hiu ⊢
    exact hiu
  have E0 : Env a n [] := ⟨hk.size, hk.defers, fun t v hv => by cases hv⟩
  have hrun : wpOp P ops Q i (fun a' w' => ∃ b, Env a' n (putl (opD ops i) (.pointer (some ⟨b, 0, none⟩)) []) ∧ Ev w0 L0 w' ((Lh ++ bs.map fun p => .box p.2 (cA p.1) (tA p.1)) ++ [.box b (cA i) (tA i)])) a w :=
    m_z (tA i) (cA i) E0 h4 (fun a' w' b E' H' => ⟨b, E', H'⟩) hop hz hc
  refine wpOp_mono (fun a' w' h => ?_) (wpOp_put ho (fun a' w' h => by obtain ⟨b, E', _⟩ := h; exact E'.defers) hrun)
  obtain ⟨⟨b, E', H'⟩, v, rfl⟩ := h
  obtain ⟨d, hd⟩ := hsome
  have hod : o.dst = some d := by
    unfold opD at hd
    rw [ho] at hd
    exact hd
  refine ⟨hk.put hnd ho hiI hdn, bs ++ [(i, b)], ?_, fun j => ?_, fun p hp o' d' ho' hd' => ?_, ?_⟩
  · rw [Qk, Xc]
    refine ⟨h1, by simp, fun x hx y hy e => ?_⟩
    simp at hy
    have := ((h2 x).1 hx).2
    rw [e, hy, hif] at this
    cases this
  · rw [Qk, Q4, h2 j]
    by_cases e : i = j
    · subst e
      simp [hil, hiA]
    · have e' : j ≠ i := fun g => e g.symm
      simp [Zm e, e']
  · rcases Q4.1 hp with hp | hp
    · have hpl := ((h2 p.1).1 (X4 hp)).2
      have e : i ≠ p.1 := fun e => by rw [← e, hif] at hpl; cases hpl
      rw [put_keep (fun g => e ((Yz _ _ hnd).2 i p.1 o o' d' (by rw [Zu]; exact ho) (by rw [Zu]; exact ho') g hd'))]
      exact h3 p hp o' d' ho' hd'
    · simp at hp
      subst hp
      rw [ho] at ho'
      cases ho'
      rw [hod] at hd'
      cases hd'
      refine E'.slot d _ ?_
      rw [hd]
      exact Jl _ _ _
  · rw [Qk, ← Qo]
    exact H'
def blkOf (bs : List (Nat × Nat)) (i : Nat) : Nat := ((bs.find? fun p => p.1 == i).map Prod.snd).getD 0
theorem look_alc {ops : Array Oper} {B : Nat → Nat} {l' : List (Nat × Value)} {t : Nat} {v : Value} : ∀ (A : List Nat), QB ((A.map fun i => (dN ops i, Value.pointer (some ⟨B i, 0, none⟩))) ++ l') t = some v → (∃ i ∈ A, dN ops i = t ∧ v = .pointer (some ⟨B i, 0, none⟩)) ∨ QB l' t = some v
  | [], h => .inr h
  | i :: r, h => by
    rw [Qs, List.cons_append] at h
    by_cases e : dN ops i = t
    · left
      refine ⟨i, QV .., e, ?_⟩
      subst e
      rw [Jl] at h
      cases h
      rfl
    · rw [look_other _ _ e] at h
      rcases look_alc r h with ⟨j, hj, h1⟩ | h1
      · exact .inl ⟨j, QA _ hj, h1⟩
      · exact .inr h1
end
section
variable {P : Program} {ops : Array Oper} {Q : Exit → Act → World → Prop} {n : Nat} {l0 L : List (Nat × Value)} {I A : List Nat} {a : Act} {w w0 : World} {L0 Lh : List Ent}
theorem Alc.order {cA : Nat → List Value} {tA : Nat → TypeId} {listed : Array Bool} (hA : Alc ops A cA tA w0 L0 Lh listed a w) (hnA : A.Nodup) (hl : ∀ i ∈ A, listed.getD i false = true) (hd : ∀ i ∈ A, ∃ o d, ops[i]? = some o ∧ o.dst = some d) :
    ∃ B : Nat → Nat, (∀ i ∈ A, a.tmps[dN ops i]? = some (.pointer (some ⟨B i, 0, none⟩))) ∧ Ev w0 L0 w (Lh ++ A.map fun i => .box (B i) (cA i) (tA i)) := by
  obtain ⟨bs, h1, h2, h3, h4⟩ := hA
  have hB : ∀ i ∈ A, ∃ k, ∃ p : Nat × Nat, bs[k]? = some p ∧ p.1 = i ∧ blkOf bs i = p.2 := fun i hi => by
    have hm := (h2 i).2 ⟨hi, hl i hi⟩
    obtain ⟨p0, hp0, e0⟩ := YX.1 hm
    have hf : ∃ p, bs.find? (fun p => p.1 == i) = some p := by
      cases h : bs.find? (fun p => p.1 == i) with
      | some p => exact ⟨p, rfl⟩
      | none => exact absurd (List.find?_eq_none.1 h p0 hp0) (by simp [e0])
    obtain ⟨p, hp⟩ := hf
    have hpm := List.mem_of_find?_eq_some hp
    have hpe := List.find?_some hp
    obtain ⟨k, hk⟩ := List.getElem?_of_mem hpm
    refine ⟨k, p, hk, by simpa using hpe, ?_⟩
    unfold blkOf
    rw [hp]
    rfl
  refine ⟨blkOf bs, fun i hi => ?_, ?_⟩
  · obtain ⟨k, p, hk, hp, hb⟩ := hB i hi
    obtain ⟨o, d, ho, hdd⟩ := hd i hi
    rw [hb]
    refine h3 p (List.mem_of_getElem? hk) o (dN ops i) (by rw [hp]; exact ho) ?_
    unfold dN opD
    rw [ho]
    simp [hdd]
  · have ix : ∀ (A' : List Nat), (∀ i ∈ A', i ∈ A) → A'.Nodup → ∃ ks : List Nat, (∀ k ∈ ks, ∃ p : Nat × Nat, bs[k]? = some p ∧ p.1 ∈ A') ∧ ks.Nodup ∧ (A'.map fun i => some (Ent.box (blkOf bs i) (cA i) (tA i))) = ks.map fun k => (bs.map fun p => Ent.box p.2 (cA p.1) (tA p.1))[k]? := fun A' => by
      induction A' with
      | nil => exact fun _ _ => ⟨[], by simp, XT, rfl⟩
      | cons i r ih =>
        intro hs hn
        obtain ⟨ks, h5, h6, h7⟩ := ih (fun j hj => hs j (QA _ hj)) (JR.1 hn).2
        obtain ⟨k, p, hk, hp, hb⟩ := hB i (hs i (QV ..))
        refine ⟨k :: ks, fun j hj => ?_, JR.2 ⟨fun hm => ?_, h6⟩, ?_⟩
        · rcases Qt.1 hj with rfl | hj
          · exact ⟨p, hk, by rw [hp]; exact QV ..⟩
          · obtain ⟨q, hq, hq2⟩ := h5 j hj
            exact ⟨q, hq, QA _ hq2⟩
        · obtain ⟨q, hq, hq2⟩ := h5 k hm
          rw [hk] at hq
          cases hq
          rw [hp] at hq2
          exact (JR.1 hn).1 hq2
        · rw [Qs, Qs, h7, List.getElem?_map, hk]
          simp [hp, hb]
    obtain ⟨ks, h5, h6, h7⟩ := ix A (fun _ h => h) hnA
    refine h4.pick ((Q3 Lh.length) ++ ks.map (Lh.length + ·)) ?_ ?_
    · rw [Qk, Qk, Xu]
      congr 1
      · refine List.ext_getElem? fun j => ?_
        rcases Qa j Lh.length with h | h
        · simp [h, zY]
        · simp [h]
      · rw [Xu]
        refine Eq.trans (by rfl) (h7.trans ?_)
        refine List.map_congr_left fun k hk => ?_
        show _ = (Lh ++ bs.map fun p => Ent.box p.2 (cA p.1) (tA p.1))[Lh.length + k]?
        rw [Ze (Nat.le_add_right _ _), Xr]
    · rw [Xc]
      refine ⟨List.nodup_range, ?_, fun x hx y hy e => ?_⟩
      · exact List.Pairwise.map _ (fun x y h g => h (by simpa using g)) h6
      · obtain ⟨k, _, rfl⟩ := YX.1 hy
        have := QH.1 hx
        omega
def alcOk (P : Program) (ops : Array Oper) (n : Nat) (cA : Nat → List Value) (tA : Nat → TypeId) (i : Nat) : Prop :=
  opAt ops n i [] = some (.run (opD ops i) (nv (Instr.alloc (tA i) true (.tuple #[])))) ∧ ((fun w => (zeroValue (tA i)).run P w) = fun w => .ok (Ks P (tA i)) w) ∧ (Ks P (tA i)).cells.toList = cA i
theorem s_gen {F : Act → World → Prop} {id : Nat} (cA : Nat → List Value) (tA : Nat → TypeId) (m' : Nat) (l' : List (Nat × Value)) (E : Env a n l0) (H : Ev w0 L0 w.drew Lh) (hst : StabL P ops (HQ F) n w0 L0 Lh l0 L I) (hal : ∀ i ∈ A, alcOk P ops n cA tA i)
    (next : ∀ a' w' (B : Nat → Nat), Env a' n ((A.map fun i => (dN ops i, Value.pointer (some ⟨B i, 0, none⟩))) ++ l') → Ev w0 L0 w' (Lh ++ A.map fun i => .box (B i) (cA i) (tA i)) → wpAny P .any ops (HQ F) m' (LI ops (I ++ A)) a' w')
    (hp : P.follows .mixedOrders = true) (hB : stabB ops (I ++ A) l0 = true) (hC : alcB ops I A = true) (hl : l'.map (fun p => srcE ops I l0 L p.1) = l'.map (fun p => some p.2)) (hm : cntF (LI ops (I ++ A)) = m') : (Code.region id ops true).wp P (HQ F) a w := by
  have hB' := hB
  unfold stabB at hB'
  simp only [zJ, z7] at hB'
  have hnd := hB'.1.1.1
  have key : ∀ i ∈ I ++ A, ∃ o, ops[i]? = some o := fun i hi => by
    have h := hB'.1.1.2 i hi
    unfold inB at h
    cases ho : ops[i]? with
    | none => rw [ho] at h; cases h
    | some o => exact ⟨o, rfl⟩
  unfold alcB at hC
  simp only [zJ, z7] at hC
  have hIA : ∀ i ∈ A, i ∉ I := fun i hi h => by
    have := (hC.1.2 i hi).1
    rw [Zl.2 h] at this
    cases this
  have hAd : ∀ i ∈ A, ∃ o d, ops[i]? = some o ∧ o.dst = some d := fun i hi => by
    obtain ⟨o, ho⟩ := key i (XM _ hi)
    have h := (hC.1.2 i hi).2
    unfold opD at h
    rw [ho] at h
    cases hd : o.dst with
    | none => simp [hd] at h
    | some d => exact ⟨o, d, ho, hd⟩
  have hlist : ∀ i ∈ I ++ A, (LI ops (I ++ A)).getD i false = true := fun i hi => by
    obtain ⟨o, ho⟩ := key i hi
    have hib := (Zx.1 ho).1
    simp only [Q4] at hi
    simp [LI, hib, hi]
  refine draw_any hp ops.size rfl ?_
  refine stab_go (J := fun listed a w => Know ops n l0 L I a listed ∧ Alc ops A cA tA w0 L0 Lh listed a w) hB (fun i hi listed a w o ho hs hiu haf hdn hJ => ?_) (fun a' w' hJ => ?_) ops.size (Array.replicate ops.size false) a w.drew (by simp [cntF, List.countP_replicate]) (by simp) (fun j hj => ?_) ?_ ⟨⟨E.size, E.defers, E.slot, fun i o d hi ho hd hl => ?_⟩, [], XT, fun i => ?_, (fun p hp => by cases hp), (by rw [KC, JP]; exact H)⟩
  · obtain ⟨hk, hA⟩ := hJ
    rcases Q4.1 hi with hi | hi
    · obtain ⟨bs, h1, h2, h3, h4⟩ := hA
      have haf' : ∀ e ∈ o.after, Region.binds .any e = true → e.on ∈ I ∧ listed.getD e.on false = true := fun e he hb => by
        have h := hC.1.1 i hi
        rw [ho] at h
        have h1 := (QJ.1 h) e he
        rw [hb] at h1
        exact ⟨Zl.1 (by simpa using h1), (haf e he hb).2⟩
      refine wpOp_mono (fun a' w' h => ?_) (stab_step hnd hi (hst.all i hi (bs.map fun p => .box p.2 (cA p.1) (tA p.1))) ho hs hiu haf' hdn hk h4)
      obtain ⟨hk', hS', v, rfl⟩ := h
      exact ⟨hk', Alc.put hnd ho (fun h => hIA i h hi) h1 h2 h3 hS'⟩
    · obtain ⟨h1, h2, h3⟩ := hal i hi
      obtain ⟨o', d, ho', hd⟩ := hAd i hi
      exact Alc.step hnd ho hi (hIA i hi) hs hiu hdn hk hA h1 h2 h3 ⟨d, by unfold opD; rw [ho']; exact hd⟩
  · obtain ⟨hk, hA⟩ := hJ
    obtain ⟨B, hB1, hB2⟩ := Alc.order hA (nodup_of hC.2) (fun i hi => hlist i (XM _ hi)) hAd
    rw [hm]
    have E' := hk.env (fun i hi => hlist i (List.mem_append_left _ hi)) hl
    refine next a' w' B ⟨E'.size, E'.defers, fun t v hv => ?_⟩ hB2
    rcases look_alc A hv with ⟨i, hi, rfl, rfl⟩ | h
    · exact hB1 i hi
    · exact E'.slot t v h
  · rcases Qa j ops.size with h | h
    · simp [h] at hj
    · simp [h] at hj
  · intro j o hj hl
    rcases Qa j ops.size with h | h
    · simp [h] at hl
    · simp [h] at hl
  · rcases Qa i ops.size with h | h
    · simp [h] at hl
    · simp [h] at hl
  · rcases Qa i ops.size with h | h
    · simp [h]
    · simp [h]
def cAl (P : Program) (ops : Array Oper) (i : Nat) : List Value := (Ks P (Yo ops i)).cells.toList
theorem s_g0 {F : Act → World → Prop} {id : Nat} (l0 : List (Nat × Value)) (I : List Nat) (L : List (Nat × Value)) (m' : Nat) (l' : List (Nat × Value)) (E : Env a n l0) (H : Ev w0 L0 w.drew Lh) (hst : StabL P ops (HQ F) n w0 L0 Lh l0 L I)
    (next : ∀ a' w', Env a' n (l') → Ev w0 L0 w' Lh → wpAny P .any ops (HQ F) m' (LI ops (I ++ [])) a' w')
    (hp : P.follows .mixedOrders = true := by kernel_rfl) (hB : stabB ops (I ++ []) l0 = true := by kernel_rfl) (hC : alcB ops I [] = true := by kernel_rfl) (hl : l'.map (fun p => srcE ops I l0 L p.1) = l'.map (fun p => some p.2) := by kernel_rfl) (hm : cntF (LI ops (I ++ [])) = m' := by kernel_rfl) : (Code.region id ops true).wp P (HQ F) a w := by
  exact s_gen (A := []) (cAl P ops) (Yo ops) m' l' E H hst (fun i hi => by cases hi) (fun a' w' B E' H' => next a' w' E' (by rw [KC, JP] at H'; exact H')) hp hB hC hl hm
theorem s_g1 {F : Act → World → Prop} {id : Nat} (l0 : List (Nat × Value)) (I : List Nat) (L : List (Nat × Value)) (m' : Nat) (l' : List (Nat × Value)) (i1 : Nat) (c1 : List Value) (E : Env a n l0) (H : Ev w0 L0 w.drew Lh) (hst : StabL P ops (HQ F) n w0 L0 Lh l0 L I)
    (next : ∀ a' w' (b1 : Nat), Env a' n ((dN ops i1, .pointer (some ⟨b1, 0, none⟩)) :: l') → Ev w0 L0 w' (Lh ++ [.box b1 c1 (Yo ops i1)]) → wpAny P .any ops (HQ F) m' (LI ops (I ++ [i1])) a' w')
    (hp : P.follows .mixedOrders = true := by kernel_rfl) (hB : stabB ops (I ++ [i1]) l0 = true := by kernel_rfl) (hC : alcB ops I [i1] = true := by kernel_rfl) (hl : l'.map (fun p => srcE ops I l0 L p.1) = l'.map (fun p => some p.2) := by kernel_rfl) (hm : cntF (LI ops (I ++ [i1])) = m' := by kernel_rfl) (e1 : alcOk P ops n (cAl P ops) (Yo ops) i1 := by exact ⟨by kernel_rfl, by kernel_rfl, rfl⟩) (f1 : cAl P ops i1 = c1 := by kernel_rfl) : (Code.region id ops true).wp P (HQ F) a w := by
  subst f1
  exact s_gen (A := [i1]) (cAl P ops) (Yo ops) m' l' E H hst (fun i hi => by simp only [Qt, JF, or_false] at hi; rcases hi with rfl <;> assumption) (fun a' w' B E' H' => next a' w' (B i1) E' H') hp hB hC hl hm
theorem s_g2 {F : Act → World → Prop} {id : Nat} (l0 : List (Nat × Value)) (I : List Nat) (L : List (Nat × Value)) (m' : Nat) (l' : List (Nat × Value)) (i1 i2 : Nat) (c1 c2 : List Value) (E : Env a n l0) (H : Ev w0 L0 w.drew Lh) (hst : StabL P ops (HQ F) n w0 L0 Lh l0 L I)
    (next : ∀ a' w' (b1 b2 : Nat), Env a' n ((dN ops i1, .pointer (some ⟨b1, 0, none⟩)) :: (dN ops i2, .pointer (some ⟨b2, 0, none⟩)) :: l') → Ev w0 L0 w' (Lh ++ [.box b1 c1 (Yo ops i1), .box b2 c2 (Yo ops i2)]) → wpAny P .any ops (HQ F) m' (LI ops (I ++ [i1, i2])) a' w')
    (hp : P.follows .mixedOrders = true := by kernel_rfl) (hB : stabB ops (I ++ [i1, i2]) l0 = true := by kernel_rfl) (hC : alcB ops I [i1, i2] = true := by kernel_rfl) (hl : l'.map (fun p => srcE ops I l0 L p.1) = l'.map (fun p => some p.2) := by kernel_rfl) (hm : cntF (LI ops (I ++ [i1, i2])) = m' := by kernel_rfl) (e1 : alcOk P ops n (cAl P ops) (Yo ops) i1 := by exact ⟨by kernel_rfl, by kernel_rfl, rfl⟩) (f1 : cAl P ops i1 = c1 := by kernel_rfl) (e2 : alcOk P ops n (cAl P ops) (Yo ops) i2 := by exact ⟨by kernel_rfl, by kernel_rfl, rfl⟩) (f2 : cAl P ops i2 = c2 := by kernel_rfl) : (Code.region id ops true).wp P (HQ F) a w := by
  subst f1 f2
  exact s_gen (A := [i1, i2]) (cAl P ops) (Yo ops) m' l' E H hst (fun i hi => by simp only [Qt, JF, or_false] at hi; rcases hi with rfl | rfl <;> assumption) (fun a' w' B E' H' => next a' w' (B i1) (B i2) E' H') hp hB hC hl hm
theorem s_g3 {F : Act → World → Prop} {id : Nat} (l0 : List (Nat × Value)) (I : List Nat) (L : List (Nat × Value)) (m' : Nat) (l' : List (Nat × Value)) (i1 i2 i3 : Nat) (c1 c2 c3 : List Value) (E : Env a n l0) (H : Ev w0 L0 w.drew Lh) (hst : StabL P ops (HQ F) n w0 L0 Lh l0 L I)
    (next : ∀ a' w' (b1 b2 b3 : Nat), Env a' n ((dN ops i1, .pointer (some ⟨b1, 0, none⟩)) :: (dN ops i2, .pointer (some ⟨b2, 0, none⟩)) :: (dN ops i3, .pointer (some ⟨b3, 0, none⟩)) :: l') → Ev w0 L0 w' (Lh ++ [.box b1 c1 (Yo ops i1), .box b2 c2 (Yo ops i2), .box b3 c3 (Yo ops i3)]) → wpAny P .any ops (HQ F) m' (LI ops (I ++ [i1, i2, i3])) a' w')
    (hp : P.follows .mixedOrders = true := by kernel_rfl) (hB : stabB ops (I ++ [i1, i2, i3]) l0 = true := by kernel_rfl) (hC : alcB ops I [i1, i2, i3] = true := by kernel_rfl) (hl : l'.map (fun p => srcE ops I l0 L p.1) = l'.map (fun p => some p.2) := by kernel_rfl) (hm : cntF (LI ops (I ++ [i1, i2, i3])) = m' := by kernel_rfl) (e1 : alcOk P ops n (cAl P ops) (Yo ops) i1 := by exact ⟨by kernel_rfl, by kernel_rfl, rfl⟩) (f1 : cAl P ops i1 = c1 := by kernel_rfl) (e2 : alcOk P ops n (cAl P ops) (Yo ops) i2 := by exact ⟨by kernel_rfl, by kernel_rfl, rfl⟩) (f2 : cAl P ops i2 = c2 := by kernel_rfl) (e3 : alcOk P ops n (cAl P ops) (Yo ops) i3 := by exact ⟨by kernel_rfl, by kernel_rfl, rfl⟩) (f3 : cAl P ops i3 = c3 := by kernel_rfl) : (Code.region id ops true).wp P (HQ F) a w := by
  subst f1 f2 f3
  exact s_gen (A := [i1, i2, i3]) (cAl P ops) (Yo ops) m' l' E H hst (fun i hi => by simp only [Qt, JF, or_false] at hi; rcases hi with rfl | rfl | rfl <;> assumption) (fun a' w' B E' H' => next a' w' (B i1) (B i2) (B i3) E' H') hp hB hC hl hm
theorem app_at {M : List Ent} {k : Nat} {e : Ent} (h : Lh[k]? = some e) : (Lh ++ M)[k]? = some e := by rw [zY (List.getElem?_eq_some_iff.1 h).1]; exact h
theorem s_n : StabL P ops Q n w0 L0 Lh l0 L [] := trivial
theorem s_c {i : Nat} {r : List Nat} (h : ∀ M a w, Env a n (envI ops l0 L i) → Ev w0 L0 w (Lh ++ M) → wpOp P ops Q i (fun a' w' => Env a' n (oneL ops L i) ∧ Ev w0 L0 w' (Lh ++ M)) a w) (hr : StabL P ops Q n w0 L0 Lh l0 L r)
    (hE : (envI ops l0 L i).map (fun p => srcOf ops l0 L i p.1) = (envI ops l0 L i).map (fun p => some p.2) := by kernel_rfl) : StabL P ops Q n w0 L0 Lh l0 L (i :: r) := ⟨fun M => ⟨_, hE, h M⟩, hr⟩
theorem s_f {i : Nat} {r : List Nat} {f : FuncId} {args : Array Value} {v : Value} (hc : ∀ w, Calls P f args w fun e w' => e = .returned v ∧ Ev w [] w' []) (hr : StabL P ops Q n w0 L0 Lh l0 L r)
    (h : opRuns P ops n i (envI ops l0 L i) = some (opD ops i, fun w => .ok (.enter f args) w) := by kernel_rfl)
    (h1 : (oneL ops L i).map (fun p => QB (putl (opD ops i) v (envI ops l0 L i)) p.1) = (oneL ops L i).map (fun p => some p.2) := by kernel_rfl)
    (hE : (envI ops l0 L i).map (fun p => srcOf ops l0 L i p.1) = (envI ops l0 L i).map (fun p => some p.2) := by kernel_rfl) : StabL P ops Q n w0 L0 Lh l0 L (i :: r) :=
  s_c (fun M a w E H => c_p E H (hc w) (fun a' w' E' H' => ⟨E'.sub h1, H'⟩) h) hr hE
theorem s_p {i : Nat} {r : List Nat} (fs : List (Nat × FV)) (hr : StabL P ops Q n w0 L0 Lh l0 L r)
    (h : (fun w => resA P ops n w (envI ops l0 L i) i) = (fun w => expA P ops n fs w (envI ops l0 L i) i) := by kernel_rfl)
    (h1 : (oneL ops L i).map (fun p => QB (nextL P ops n fs (envI ops l0 L i) i) p.1) = (oneL ops L i).map (fun p => some p.2) := by kernel_rfl)
    (hE : (envI ops l0 L i).map (fun p => srcOf ops l0 L i p.1) = (envI ops l0 L i).map (fun p => some p.2) := by kernel_rfl) : StabL P ops Q n w0 L0 Lh l0 L (i :: r) :=
  s_c (fun M a w E H => by
    have h2 := congrFun h w
    unfold resA expA at h2
    have go : ∀ a', Env a' n (nextL P ops n fs (envI ops l0 L i) i) → Env a' n (oneL ops L i) ∧ Ev w0 L0 w (Lh ++ M) := fun a' E' => ⟨E'.sub h1, H⟩
    unfold nextL at go
    cases ho : opAt ops n i (envI ops l0 L i) with
    | none => simp [ho] at h2
    | some x =>
      cases x with
      | run d s =>
        simp only [ho, Option.some.injEq] at h2 go
        rw [raw_fin] at h2
        exact any_run E ho h2 go
      | skip d =>
        simp only [ho] at go
        obtain ⟨o, hq, hw, rfl, hf⟩ := opAt_skip E ho
        simp only [wpOp, hq, hw, J1, if_false]
        exact go _ (E.put undef hf)) hr hE
theorem s_a {i : Nat} {r : List Nat} (k off m : Nat) (xs : List Value) {b : Nat} {cs : List Value} {T : TypeId} (hk : Lh[k]? = some (.box b cs T)) (hx : (cs.drop off).take m = xs) (hm : xs.length = m) (hr : StabL P ops Q n w0 L0 Lh l0 L r)
    (h : opAt ops n i (envI ops l0 L i) = some (.run (opD ops i) (nv (Instr.loadAt (Yo ops i) (.pointer (some ⟨b, off, none⟩))))) := by kernel_rfl)
    (ht : (fun w => (isAgg (Yo ops i)).run P w) = fun w => .ok true w := by kernel_rfl) (hs : (fun w => (sizeOf (Yo ops i)).run P w) = fun w => .ok m w := by kernel_rfl)
    (h1 : (oneL ops L i).map (fun p => QB (putl (opD ops i) (.agg xs.toArray) (envI ops l0 L i)) p.1) = (oneL ops L i).map (fun p => some p.2) := by kernel_rfl)
    (hE : (envI ops l0 L i).map (fun p => srcOf ops l0 L i p.1) = (envI ops l0 L i).map (fun p => some p.2) := by kernel_rfl) : StabL P ops Q n w0 L0 Lh l0 L (i :: r) :=
  s_c (fun M a w E H => m_a k off m xs E H (app_at hk) hx hm (fun a' E' => ⟨E'.sub h1, H⟩) h ht hs) hr hE
theorem s_e {i : Nat} {l : List (Nat × Value)} {a' : Act} {w' : World} {Lh : List Ent} (E : Env a' n l) (H : Ev w0 L0 w' Lh) (h1 : (oneL ops L i).map (fun p => QB l p.1) = (oneL ops L i).map (fun p => some p.2) := by kernel_rfl) : Env a' n (oneL ops L i) ∧ Ev w0 L0 w' Lh := ⟨E.sub h1, H⟩
end
end Go.Dbr
namespace Go.Proofs.YtpfhmbbiadpbeaaGreat
open Go.Dbr
theorem h2f : (2 : Int) = 1 ∨ (2 : Int) = 2 ∨ (2 : Int) = 3 ∨ (2 : Int) = 4 := .inr (.inl rfl)
theorem hL2 : LeftOk 2 := leftOk3 (by decide)
theorem hR2 : RMulOk 2 := rmulOk h2f hL2
def bN : Nat := 41058363725152142129326129780047268409114441015993725554835256314039467401291
def thN (a : Nat) : Nat := z5 2 (z5 2 a a) a
def crN (a b c d l : Nat) : Nat := zZ 2 (zo 2 (z5 2 a b) (z5 2 c d)) l
theorem nv_a2 (x y : Nat) : nv (nd (z5 2 x y)) = z5 2 x y := nv_nd (addM_lt h2f x y)
theorem nv_s2 (x y : Nat) : nv (nd (zZ 2 x y)) = zZ 2 x y := nv_nd (subM_lt h2f x y)
theorem nv_m2 (x y : Nat) : nv (nd (zo 2 x y)) = zo 2 x y := nv_nd (mulM_lt h2f x y)
theorem nv_th (a : Nat) : nv (nd (thN a)) = thN a := by unfold thN; exact nv_a2 _ _
theorem nv_cr (a b c d l : Nat) : nv (nd (crN a b c d l)) = crN a b c d l := by unfold crN; exact nv_s2 _ _
theorem nv_b : nv (nd bN) = bN := nv_nd (by decide)
theorem pmul_go (w : World) (a b : List UInt64) (ha : zf a = 4) (hb : zf b = 4) : Calls zB 39 #[.agg (zc (zg a)), .agg (zc (zg b))] w fun e w' => e = .returned (.agg (zc (zg (nd (zo 2 (nv a) (nv b)))))) ∧ Ev w [] w' [] := by
 refine d_0 [(0, .agg (zc (zg a))), (1, .agg (zc (zg b)))] 8 Tryz.func39 Tryz.ntmps39 (Heap.nil _) fun Ek El Em => wp_seq <| zj <| f_o <| m_m 24 (zg a) El Em fun _ _ Eq En Eo => f_o <| m_m 24 (zg b) En Eo fun _ _ Er Ep Ec => f_o <| m_z 24 (zg (zd 4 0)) Ep Ec fun _ _ Ed Ee Ea => f_e <| ze <| wp_seq <| zj <| f_o <| m_aw 0 4 (zg a) Ee Ea rfl (za ha) fun _ Ef => f_o <| m_aw 1 4 (zg b) Ef Ea rfl (za hb) fun _ Eg => ?_
 refine f_o <| c_p Eg Ea (hM2 _ a b ha hb) fun _ _ Eh Ei => f_o <| zW 2 4 (zg (nd (zo 2 (nv a) (nv b)))) _ Eh Ei rfl (za (zl _ _)) (za (zh)) (zq _) rfl fun _ _ Ej Eb => f_e <| ze <| wp_ret <| zU (v := .agg (zc (zg (nd (zo 2 (nv a) (nv b)))))) (t := 4) (T := 24) (ad := ⟨Ed, 0, none⟩) Ej (by kernel_rfl) (by kernel_rfl) (zC (t := 24) (k := 2) (off := 0) (m := 4) (xs := zg (nd (zo 2 (nv a) (nv b)))) Eb rfl (zn (za (zl _ _))) (za (zl _ _)) (by kernel_rfl) (by kernel_rfl)) ?_
 exact ⟨rfl, Eb.pk []⟩
theorem psum_go (w : World) (a b : List UInt64) (ha : zf a = 4) (hb : zf b = 4) : Calls zB 37 #[.agg (zc (zg a)), .agg (zc (zg b))] w fun e w' => e = .returned (.agg (zc (zg (nd (z5 2 (nv a) (nv b)))))) ∧ Ev w [] w' [] := by
 refine d_0 [(0, .agg (zc (zg a))), (1, .agg (zc (zg b)))] 8 Tryz.func37 Tryz.ntmps37 (Heap.nil _) fun Ek El Em => wp_seq <| zj <| f_o <| m_m 24 (zg a) El Em fun _ _ Eq En Eo => f_o <| m_m 24 (zg b) En Eo fun _ _ Er Ep Ec => f_o <| m_z 24 (zg (zd 4 0)) Ep Ec fun _ _ Ed Ee Ea => f_e <| ze <| wp_seq <| zj <| f_o <| m_aw 0 4 (zg a) Ee Ea rfl (za ha) fun _ Ef => f_o <| m_aw 1 4 (zg b) Ef Ea rfl (za hb) fun _ Eg => ?_
 refine f_o <| c_p Eg Ea (add_go _ 2 h2f a b ha hb) fun _ _ Eh Ei => f_o <| zW 2 4 (zg (nd (z5 2 (nv a) (nv b)))) _ Eh Ei rfl (za (zl _ _)) (za (zh)) (zq _) rfl fun _ _ Ej Eb => f_e <| ze <| wp_ret <| zU (v := .agg (zc (zg (nd (z5 2 (nv a) (nv b)))))) (t := 4) (T := 24) (ad := ⟨Ed, 0, none⟩) Ej (by kernel_rfl) (by kernel_rfl) (zC (t := 24) (k := 2) (off := 0) (m := 4) (xs := zg (nd (z5 2 (nv a) (nv b)))) Eb rfl (zn (za (zl _ _))) (za (zl _ _)) (by kernel_rfl) (by kernel_rfl)) ?_
 exact ⟨rfl, Eb.pk []⟩
theorem pdif_go (w : World) (a b : List UInt64) (ha : zf a = 4) (hb : zf b = 4) : Calls zB 38 #[.agg (zc (zg a)), .agg (zc (zg b))] w fun e w' => e = .returned (.agg (zc (zg (nd (zZ 2 (nv a) (nv b)))))) ∧ Ev w [] w' [] := by
 refine d_0 [(0, .agg (zc (zg a))), (1, .agg (zc (zg b)))] 8 Tryz.func38 Tryz.ntmps38 (Heap.nil _) fun Ek El Em => wp_seq <| zj <| f_o <| m_m 24 (zg a) El Em fun _ _ Eq En Eo => f_o <| m_m 24 (zg b) En Eo fun _ _ Er Ep Ec => f_o <| m_z 24 (zg (zd 4 0)) Ep Ec fun _ _ Ed Ee Ea => f_e <| ze <| wp_seq <| zj <| f_o <| m_aw 0 4 (zg a) Ee Ea rfl (za ha) fun _ Ef => f_o <| m_aw 1 4 (zg b) Ef Ea rfl (za hb) fun _ Eg => ?_
 refine f_o <| c_p Eg Ea (sub_go _ 2 h2f a b ha hb) fun _ _ Eh Ei => f_o <| zW 2 4 (zg (nd (zZ 2 (nv a) (nv b)))) _ Eh Ei rfl (za (zl _ _)) (za (zh)) (zq _) rfl fun _ _ Ej Eb => f_e <| ze <| wp_ret <| zU (v := .agg (zc (zg (nd (zZ 2 (nv a) (nv b)))))) (t := 4) (T := 24) (ad := ⟨Ed, 0, none⟩) Ej (by kernel_rfl) (by kernel_rfl) (zC (t := 24) (k := 2) (off := 0) (m := 4) (xs := zg (nd (zZ 2 (nv a) (nv b)))) Eb rfl (zn (za (zl _ _))) (za (zl _ _)) (by kernel_rfl) (by kernel_rfl)) ?_
 exact ⟨rfl, Eb.pk []⟩
theorem curveB_go (w : World) : Calls zB 41 #[] w fun e w' => e = .returned (.agg (zc (zg (nd bN)))) ∧ Ev w [] w' [] := by
 refine d_0 [] 2 Tryz.func41 Tryz.ntmps41 (Heap.nil _) fun Ec Ed Ee => wp_seq <| zj <| f_o <| m_z 24 (zg (zd 4 0)) Ed Ee fun _ _ Ef Eg Eh => f_e <| ze <| wp_seq <| zj <| d_k [0,1] [] 1 Eg fun _ Ei => f_o <| zW 0 4 (zg ([4309448131093880907, 7285987128567378166, 12964664127075681980, 6540974713487397863] : List UInt64)) _ Ei Eh rfl (za (show zf ([4309448131093880907, 7285987128567378166, 12964664127075681980, 6540974713487397863] : List UInt64) = 4 from rfl)) (za (zh)) (zq _) rfl fun _ _ Eb Ea => f_e <| ze <| wp_ret <| zU (v := .agg (zc (zg ([4309448131093880907, 7285987128567378166, 12964664127075681980, 6540974713487397863] : List UInt64)))) (t := 0) (T := 24) (ad := ⟨Ef, 0, none⟩) Eb (by kernel_rfl) (by kernel_rfl) (zC (t := 24) (k := 0) (off := 0) (m := 4) (xs := zg ([4309448131093880907, 7285987128567378166, 12964664127075681980, 6540974713487397863] : List UInt64)) Ea rfl (zn (za (show zf ([4309448131093880907, 7285987128567378166, 12964664127075681980, 6540974713487397863] : List UInt64) = 4 from rfl))) (za (show zf ([4309448131093880907, 7285987128567378166, 12964664127075681980, 6540974713487397863] : List UInt64) = 4 from rfl)) (by kernel_rfl) (by kernel_rfl)) ?_
 exact ⟨by kernel_rfl, Ea.pk []⟩
theorem thrice_go (w : World) (a : List UInt64) (ha : zf a = 4) : Calls zB 40 #[.agg (zc (zg a))] w fun e w' => e = .returned (.agg (zc (zg (nd (thN (nv a)))))) ∧ Ev w [] w' [] := by
 refine d_0 [(0, .agg (zc (zg a)))] 8 Tryz.func40 Tryz.ntmps40 (Heap.nil _) fun Ei Ej Ek => wp_seq <| zj <| f_o <| m_m 24 (zg a) Ej Ek fun _ _ El Em En => f_o <| m_z 24 (zg (zd 4 0)) Em En fun _ _ Ea Eo Eb => ?_
 refine f_e <| ze <| wp_seq <| r_c (fun ac wo => Env ac 8 [(2, pt Ea)] ∧ Ev w [] wo [.box Ea (zg (nd (z5 2 (nv (nd (z5 2 (nv a) (nv a)))) (nv a)))) 24]) ?_ ?_
 ·
  refine s_g0 [(1, pt El), (2, pt Ea)] [0,1,2,3,4] [(3, .agg (zc (zg a))), (4, .agg (zc (zg a))), (5, .agg (zc (zg (nd (z5 2 (nv a) (nv a)))))), (6, .agg (zc (zg a))), (7, .agg (zc (zg (nd (z5 2 (nv (nd (z5 2 (nv a) (nv a)))) (nv a))))))] 1 [(2, pt Ea), (7, .agg (zc (zg (nd (z5 2 (nv (nd (z5 2 (nv a) (nv a)))) (nv a))))))] (Eo.sb) (Eb.trans (zN Eb.heap)) ?_ fun _ _ Ed Ee => ?_
  ·
   refine s_a 0 0 4 (zg a) rfl (zn (za ha)) (za ha) <| s_a 0 0 4 (zg a) rfl (zn (za ha)) (za ha) <| s_f (fun _ => psum_go _ a a ha ha) ?_
   refine s_a 0 0 4 (zg a) rfl (zn (za ha)) (za ha) <| s_f (fun _ => psum_go _ (nd (z5 2 (nv a) (nv a))) a (zl _ _) ha) ?_
   exact s_n
  refine q_u 5 ?_
  refine zW 1 4 (zg (nd (z5 2 (nv (nd (z5 2 (nv a) (nv a)))) (nv a)))) _ Ed Ee rfl (za (zl _ _)) (za (zh)) (zq _) rfl fun _ _ Ef Eg => ?_
  exact a_e ⟨Ef.sb, Eg.pk [1]⟩
 rintro _ _ ⟨Eh, Ec⟩
 refine ze <| wp_ret <| zU (v := .agg (zc (zg (nd (z5 2 (nv (nd (z5 2 (nv a) (nv a)))) (nv a)))))) (t := 2) (T := 24) (ad := ⟨Ea, 0, none⟩) Eh (by kernel_rfl) (by kernel_rfl) (zC (t := 24) (k := 0) (off := 0) (m := 4) (xs := zg (nd (z5 2 (nv (nd (z5 2 (nv a) (nv a)))) (nv a)))) Ec rfl (zn (za (zl _ _))) (za (zl _ _)) (by kernel_rfl) (by kernel_rfl)) ?_
 have e : nd (z5 2 (nv (nd (z5 2 (nv a) (nv a)))) (nv a)) = nd (thN (nv a)) := by unfold thN; rw [nv_a2]
 exact ⟨congrArg (fun l : List UInt64 => Ending.returned (Value.agg (zg l).toArray)) e, Ec.pk []⟩
theorem crossed_go (w : World) (a b c d l : List UInt64) (ha : zf a = 4) (hb : zf b = 4) (hc : zf c = 4) (hd : zf d = 4) (hl : zf l = 4) : Calls zB 53 #[.agg (zc (zg a)), .agg (zc (zg b)), .agg (zc (zg c)), .agg (zc (zg d)), .agg (zc (zg l))] w fun e w' => e = .returned (.agg (zc (zg (nd (crN (nv a) (nv b) (nv c) (nv d) (nv l)))))) ∧ Ev w [] w' [] := by
 refine d_0 [(0, .agg (zc (zg a))), (1, .agg (zc (zg b))), (2, .agg (zc (zg c))), (3, .agg (zc (zg d))), (4, .agg (zc (zg l)))] 20 Tryz.func53 Tryz.ntmps53 (Heap.nil _) fun Et Eu Ew => wp_seq <| zj <| f_o <| m_m 24 (zg a) Eu Ew fun _ _ Ex Ey Ez => f_o <| m_m 24 (zg b) Ey Ez fun _ _ EA EB Eg => f_o <| m_m 24 (zg c) EB Eg fun _ _ Eh Ei Ej => f_o <| m_m 24 (zg d) Ei Ej fun _ _ Ek El Em => f_o <| m_m 24 (zg l) El Em fun _ _ En Eo Ep => ?_
 refine f_o <| m_z 24 (zg (zd 4 0)) Eo Ep fun _ _ Ea Eq Ec => ?_
 refine f_e <| ze <| wp_seq <| r_c (fun ac wo => Env ac 20 [(10, pt Ea)] ∧ Ev w [] wo [.box Ea (zg (nd (zZ 2 (nv (nd (zo 2 (nv (nd (z5 2 (nv a) (nv b)))) (nv (nd (z5 2 (nv c) (nv d))))))) (nv l)))) 24]) ?_ ?_
 ·
  refine s_g0 [(5, pt Ex), (6, pt EA), (7, pt Eh), (8, pt Ek), (9, pt En), (10, pt Ea)] [0,1,2,3,4,5,6,7,8] [(11, .agg (zc (zg a))), (12, .agg (zc (zg b))), (13, .agg (zc (zg (nd (z5 2 (nv a) (nv b)))))), (14, .agg (zc (zg c))), (15, .agg (zc (zg d))), (16, .agg (zc (zg (nd (z5 2 (nv c) (nv d)))))), (17, .agg (zc (zg (nd (zo 2 (nv (nd (z5 2 (nv a) (nv b)))) (nv (nd (z5 2 (nv c) (nv d))))))))), (18, .agg (zc (zg l))), (19, .agg (zc (zg (nd (zZ 2 (nv (nd (zo 2 (nv (nd (z5 2 (nv a) (nv b)))) (nv (nd (z5 2 (nv c) (nv d))))))) (nv l))))))] 1 [(10, pt Ea), (19, .agg (zc (zg (nd (zZ 2 (nv (nd (zo 2 (nv (nd (z5 2 (nv a) (nv b)))) (nv (nd (z5 2 (nv c) (nv d))))))) (nv l))))))] (Eq.sb) (Ec.trans (zN Ec.heap)) ?_ fun _ _ Er Es => ?_
  ·
   refine s_a 0 0 4 (zg a) rfl (zn (za ha)) (za ha) <| s_a 1 0 4 (zg b) rfl (zn (za hb)) (za hb) <| s_f (fun _ => psum_go _ a b ha hb) ?_
   refine s_a 2 0 4 (zg c) rfl (zn (za hc)) (za hc) <| s_a 3 0 4 (zg d) rfl (zn (za hd)) (za hd) <| s_f (fun _ => psum_go _ c d hc hd) ?_
   refine s_f (fun _ => pmul_go _ (nd (z5 2 (nv a) (nv b))) (nd (z5 2 (nv c) (nv d))) (zl _ _) (zl _ _)) ?_
   refine s_a 4 0 4 (zg l) rfl (zn (za hl)) (za hl) <| s_f (fun _ => pdif_go _ (nd (zo 2 (nv (nd (z5 2 (nv a) (nv b)))) (nv (nd (z5 2 (nv c) (nv d)))))) l (zl _ _) hl) ?_
   exact s_n
  refine q_u 9 ?_
  refine zW 5 4 (zg (nd (zZ 2 (nv (nd (zo 2 (nv (nd (z5 2 (nv a) (nv b)))) (nv (nd (z5 2 (nv c) (nv d))))))) (nv l)))) _ Er Es rfl (za (zl _ _)) (za (zh)) (zq _) rfl fun _ _ Ed Ee => ?_
  exact a_e ⟨Ed.sb, Ee.pk [5]⟩
 rintro _ _ ⟨Ef, Eb⟩
 refine ze <| wp_ret <| zU (v := .agg (zc (zg (nd (zZ 2 (nv (nd (zo 2 (nv (nd (z5 2 (nv a) (nv b)))) (nv (nd (z5 2 (nv c) (nv d))))))) (nv l)))))) (t := 10) (T := 24) (ad := ⟨Ea, 0, none⟩) Ef (by kernel_rfl) (by kernel_rfl) (zC (t := 24) (k := 0) (off := 0) (m := 4) (xs := zg (nd (zZ 2 (nv (nd (zo 2 (nv (nd (z5 2 (nv a) (nv b)))) (nv (nd (z5 2 (nv c) (nv d))))))) (nv l)))) Eb rfl (zn (za (zl _ _))) (za (zl _ _)) (by kernel_rfl) (by kernel_rfl)) ?_
 have e : nd (zZ 2 (nv (nd (zo 2 (nv (nd (z5 2 (nv a) (nv b)))) (nv (nd (z5 2 (nv c) (nv d))))))) (nv l)) = nd (crN (nv a) (nv b) (nv c) (nv d) (nv l)) := by unfold crN; rw [nv_a2, nv_a2, nv_m2]
 exact ⟨congrArg (fun l : List UInt64 => Ending.returned (Value.agg (zg l).toArray)) e, Eb.pk []⟩
abbrev N3 := Nat × Nat × Nat
def uN (xz zz : Nat) : Nat := thN (zZ 2 xz (zo 2 bN zz))
def vN (xx xz zz : Nat) : Nat := thN (zZ 2 (zZ 2 (zo 2 bN xz) (thN zz)) xx)
def wN (xx zz : Nat) : Nat := zZ 2 (thN xx) (thN zz)
def outX (xy yz low high v w : Nat) : Nat := zZ 2 (zo 2 xy high) (zo 2 yz v)
def outY (xy yz low high v w : Nat) : Nat := z5 2 (zo 2 high low) (zo 2 w v)
def outZ (xy yz low high v w : Nat) : Nat := z5 2 (zo 2 yz low) (zo 2 xy w)
def wtA (f : Nat → Nat → Nat → Nat → Nat → Nat → Nat) (x1 y1 z1 x2 y2 z2 : Nat) : Nat :=
  f (crN x1 y1 x2 y2 (z5 2 (zo 2 x1 x2) (zo 2 y1 y2))) (crN y1 z1 y2 z2 (z5 2 (zo 2 y1 y2) (zo 2 z1 z2))) (zZ 2 (zo 2 y1 y2) (uN (crN x1 z1 x2 z2 (z5 2 (zo 2 x1 x2) (zo 2 z1 z2))) (zo 2 z1 z2))) (z5 2 (zo 2 y1 y2) (uN (crN x1 z1 x2 z2 (z5 2 (zo 2 x1 x2) (zo 2 z1 z2))) (zo 2 z1 z2)))
    (vN (zo 2 x1 x2) (crN x1 z1 x2 z2 (z5 2 (zo 2 x1 x2) (zo 2 z1 z2))) (zo 2 z1 z2)) (wN (zo 2 x1 x2) (zo 2 z1 z2))
def wtN : N3 → N3 → N3
  | (x1, y1, z1), (x2, y2, z2) => (wtA outX x1 y1 z1 x2 y2 z2, wtA outY x1 y1 z1 x2 y2 z2, wtA outZ x1 y1 z1 x2 y2 z2)
theorem ret3 {x y z x' y' z' : List UInt64} (h1 : x = x') (h2 : y = y') (h3 : z = z') : Ending.returned (.agg (zc ((zg x) ++ ((zg y) ++ (zg z))))) = Ending.returned (.agg (zc ((zg x') ++ ((zg y') ++ (zg z'))))) := by rw [h1, h2, h3]
theorem with_go (w : World) (x1 y1 z1 x2 y2 z2 : List UInt64) (hx1 : zf x1 = 4) (hy1 : zf y1 = 4) (Eq : zf z1 = 4) (hx2 : zf x2 = 4) (hy2 : zf y2 = 4) (Er : zf z2 = 4) : Calls zB 19 #[.agg (zc ((zg x1) ++ ((zg y1) ++ (zg z1)))), .agg (zc ((zg x2) ++ ((zg y2) ++ (zg z2))))] w fun e w' => e = .returned (.agg (zc ((zg (nd (wtA outX (nv x1) (nv y1) (nv z1) (nv x2) (nv y2) (nv z2)))) ++ ((zg (nd (wtA outY (nv x1) (nv y1) (nv z1) (nv x2) (nv y2) (nv z2)))) ++ (zg (nd (wtA outZ (nv x1) (nv y1) (nv z1) (nv x2) (nv y2) (nv z2)))))))) ∧ Ev w [] w' [] := by
 refine d_0 [(0, .agg (zc ((zg x1) ++ ((zg y1) ++ (zg z1))))), (1, .agg (zc ((zg x2) ++ ((zg y2) ++ (zg z2)))))] 117 Tryz.func19 Tryz.ntmps19 (Heap.nil _) fun Hz HA HB => wp_seq <| zj <| f_o <| m_m 44 ((zg x1) ++ ((zg y1) ++ (zg z1))) HA HB fun _ _ El HC HD => f_o <| m_m 44 ((zg x2) ++ ((zg y2) ++ (zg z2))) HC HD fun _ _ Em HE Hp => f_o <| m_z 44 ((zg (zd 4 0)) ++ ((zg (zd 4 0)) ++ (zg (zd 4 0)))) HE Hp fun _ _ Ec Hq Hr => f_e <| ze <| wp_seq <| zj <| f_o <| c_p Hq Hr (curveB_go _) fun _ _ Hs Ht => f_o <| m_z 24 (zg (zd 4 0)) Hs Ht fun _ _ Eh Hu Hv => ?_
 refine f_o <| zW 3 4 (zg (nd bN)) _ Hu Hv rfl (za (zl _ _)) (za (zh)) (zq _) rfl fun _ _ Hw EB => ?_
 refine f_e <| ze <| wp_seq <| r_c (fun ac wo => ∃ (Ed : Nat) (Ee : Nat) (Ef : Nat), Env ac 117 [(2, pt El), (3, pt Em), (4, pt Ec), (5, pt Eh), (6, pt Ed), (7, pt Ee), (8, pt Ef)] ∧ Ev w [] wo [.box El ((zg x1) ++ ((zg y1) ++ (zg z1))) 44, .box Em ((zg x2) ++ ((zg y2) ++ (zg z2))) 44, .box Ec ((zg (zd 4 0)) ++ ((zg (zd 4 0)) ++ (zg (zd 4 0)))) 44, .box Eh (zg (nd bN)) 24, .box Ed (zg (nd (zo 2 (nv x1) (nv x2)))) 24, .box Ee (zg (nd (zo 2 (nv y1) (nv y2)))) 24, .box Ef (zg (nd (zo 2 (nv z1) (nv z2)))) 24]) ?_ ?_
 ·
  refine s_g3 [(2, pt El), (3, pt Em), (4, pt Ec), (5, pt Eh)] [0,1,2,3,4,5,6,7,8,9,10,11,12,13,14] [(18, pt El), (19, .agg (zc (zg x1))), (20, pt Em), (21, .agg (zc (zg x2))), (22, .agg (zc (zg (nd (zo 2 (nv x1) (nv x2)))))), (23, .pointer (some ⟨El, 4, none⟩)), (24, .agg (zc (zg y1))), (25, .pointer (some ⟨Em, 4, none⟩)), (26, .agg (zc (zg y2))), (27, .agg (zc (zg (nd (zo 2 (nv y1) (nv y2)))))), (28, .pointer (some ⟨El, 8, none⟩)), (29, .agg (zc (zg z1))), (30, .pointer (some ⟨Em, 8, none⟩)), (31, .agg (zc (zg z2))), (32, .agg (zc (zg (nd (zo 2 (nv z1) (nv z2))))))] 3 [(2, pt El), (3, pt Em), (4, pt Ec), (5, pt Eh), (22, .agg (zc (zg (nd (zo 2 (nv x1) (nv x2)))))), (27, .agg (zc (zg (nd (zo 2 (nv y1) (nv y2)))))), (32, .agg (zc (zg (nd (zo 2 (nv z1) (nv z2))))))] 15 16 17 (zg (zd 4 0)) (zg (zd 4 0)) (zg (zd 4 0)) (Hw.sb) (EB.trans (zN EB.heap)) ?_ fun _ _ Ed Ee Ef Hx Hy => ?_
  ·
   refine s_p [] <| s_a 0 0 4 (zg x1) rfl (by simp [za hx1, za hy1, za Eq, zu, zv]) (za hx1) <| s_p [] <| s_a 1 0 4 (zg x2) rfl (by simp [za hx2, za hy2, za Er, zu, zv]) (za hx2) <| s_f (fun _ => pmul_go _ x1 x2 hx1 hx2) ?_
   refine s_p [] <| s_a 0 4 4 (zg y1) rfl (by simp [za hx1, za hy1, za Eq, zu, zv]) (za hy1) <| s_p [] <| s_a 1 4 4 (zg y2) rfl (by simp [za hx2, za hy2, za Er, zu, zv]) (za hy2) <| s_f (fun _ => pmul_go _ y1 y2 hy1 hy2) ?_
   refine s_p [] <| s_a 0 8 4 (zg z1) rfl (by simp [za hx1, za hy1, za Eq, zu, zv, zx]) (za Eq) <| s_p [] <| s_a 1 8 4 (zg z2) rfl (by simp [za hx2, za hy2, za Er, zu, zv, zx]) (za Er) <| s_f (fun _ => pmul_go _ z1 z2 Eq Er) ?_
   exact s_n
  refine q_u 18 ?_
  refine zW 4 4 (zg (nd (zo 2 (nv x1) (nv x2)))) [.box El ((zg x1) ++ ((zg y1) ++ (zg z1))) 44, .box Em ((zg x2) ++ ((zg y2) ++ (zg z2))) 44, .box Ec ((zg (zd 4 0)) ++ ((zg (zd 4 0)) ++ (zg (zd 4 0)))) 44, .box Eh (zg (nd bN)) 24, .box Ed (zg (nd (zo 2 (nv x1) (nv x2)))) 24, .box Ee (zg (zd 4 0)) 24, .box Ef (zg (zd 4 0)) 24] Hx Hy rfl (za (zl _ _)) (za (zh)) (zq _) rfl fun _ _ EC ED => q_u 19 ?_
  refine zW 5 4 (zg (nd (zo 2 (nv y1) (nv y2)))) _ EC ED rfl (za (zl _ _)) (za (zh)) (zq _) rfl fun _ _ EE EF => q_u 20 ?_
  refine zW 6 4 (zg (nd (zo 2 (nv z1) (nv z2)))) [.box El ((zg x1) ++ ((zg y1) ++ (zg z1))) 44, .box Em ((zg x2) ++ ((zg y2) ++ (zg z2))) 44, .box Ec ((zg (zd 4 0)) ++ ((zg (zd 4 0)) ++ (zg (zd 4 0)))) 44, .box Eh (zg (nd bN)) 24, .box Ed (zg (nd (zo 2 (nv x1) (nv x2)))) 24, .box Ee (zg (nd (zo 2 (nv y1) (nv y2)))) 24, .box Ef (zg (nd (zo 2 (nv z1) (nv z2)))) 24] EE EF rfl (za (zl _ _)) (za (zh)) (zq _) rfl fun _ _ EG EH => ?_
  exact a_e ⟨Ed, Ee, Ef, EG.sb, EH.pk [0, 1, 2, 3, 4, 5, 6]⟩
 rintro _ _ ⟨Ed, Ee, Ef, EI, Ep⟩
 obtain ⟨xx, h_xx⟩ : ∃ q : List UInt64, q = nd (zo 2 (nv x1) (nv x2)) := ⟨_, rfl⟩
 rw [← h_xx] at Ep
 have n_xx : zf xx = 4 := by rw [h_xx]; exact zl _ _
 obtain ⟨yy, h_yy⟩ : ∃ q : List UInt64, q = nd (zo 2 (nv y1) (nv y2)) := ⟨_, rfl⟩
 rw [← h_yy] at Ep
 have n_yy : zf yy = 4 := by rw [h_yy]; exact zl _ _
 obtain ⟨zz, h_zz⟩ : ∃ q : List UInt64, q = nd (zo 2 (nv z1) (nv z2)) := ⟨_, rfl⟩
 rw [← h_zz] at Ep
 have n_zz : zf zz = 4 := by rw [h_zz]; exact zl _ _
 refine ze <| wp_seq <| r_c (fun ac wo => ∃ (Ea : Nat), Env ac 117 [(2, pt El), (3, pt Em), (4, pt Ec), (5, pt Eh), (6, pt Ed), (7, pt Ee), (8, pt Ef), (9, pt Ea)] ∧ Ev w [] wo [.box El ((zg x1) ++ ((zg y1) ++ (zg z1))) 44, .box Em ((zg x2) ++ ((zg y2) ++ (zg z2))) 44, .box Ec ((zg (zd 4 0)) ++ ((zg (zd 4 0)) ++ (zg (zd 4 0)))) 44, .box Eh (zg (nd bN)) 24, .box Ed (zg xx) 24, .box Ee (zg yy) 24, .box Ef (zg zz) 24, .box Ea (zg (nd (crN (nv x1) (nv y1) (nv x2) (nv y2) (nv (nd (z5 2 (nv xx) (nv yy))))))) 24]) ?_ ?_
 ·
  refine s_g1 [(2, pt El), (3, pt Em), (4, pt Ec), (5, pt Eh), (6, pt Ed), (7, pt Ee), (8, pt Ef)] [0,1,2,3,4,5,6,7,8,9,10,11] [(33, pt El), (34, .agg (zc (zg x1))), (35, .pointer (some ⟨El, 4, none⟩)), (36, .agg (zc (zg y1))), (37, pt Em), (38, .agg (zc (zg x2))), (39, .pointer (some ⟨Em, 4, none⟩)), (40, .agg (zc (zg y2))), (41, .agg (zc (zg xx))), (42, .agg (zc (zg yy))), (43, .agg (zc (zg (nd (z5 2 (nv xx) (nv yy)))))), (44, .agg (zc (zg (nd (crN (nv x1) (nv y1) (nv x2) (nv y2) (nv (nd (z5 2 (nv xx) (nv yy)))))))))] 1 [(2, pt El), (3, pt Em), (4, pt Ec), (5, pt Eh), (6, pt Ed), (7, pt Ee), (8, pt Ef), (44, .agg (zc (zg (nd (crN (nv x1) (nv y1) (nv x2) (nv y2) (nv (nd (z5 2 (nv xx) (nv yy)))))))))] 12 (zg (zd 4 0)) (EI.sb) (Ep.trans (zN Ep.heap)) ?_ fun _ _ Ea EJ EK => ?_
  ·
   refine s_p [] <| s_a 0 0 4 (zg x1) rfl (by simp [za hx1, za hy1, za Eq, zu, zv]) (za hx1) <| s_p [] <| s_a 0 4 4 (zg y1) rfl (by simp [za hx1, za hy1, za Eq, zu, zv]) (za hy1) <| s_p [] <| s_a 1 0 4 (zg x2) rfl (by simp [za hx2, za hy2, za Er, zu, zv]) (za hx2) ?_
   refine s_p [] <| s_a 1 4 4 (zg y2) rfl (by simp [za hx2, za hy2, za Er, zu, zv]) (za hy2) <| s_a 4 0 4 (zg xx) rfl (zn (za n_xx)) (za n_xx) <| s_a 5 0 4 (zg yy) rfl (zn (za n_yy)) (za n_yy) <| s_f (fun _ => psum_go _ xx yy n_xx n_yy) ?_
   refine s_f (fun _ => crossed_go _ x1 y1 x2 y2 (nd (z5 2 (nv xx) (nv yy))) hx1 hy1 hx2 hy2 (zl _ _)) ?_
   exact s_n
  refine q_u 13 ?_
  refine zW 7 4 (zg (nd (crN (nv x1) (nv y1) (nv x2) (nv y2) (nv (nd (z5 2 (nv xx) (nv yy))))))) _ EJ EK rfl (za (zl _ _)) (za (zh)) (zq _) rfl fun _ _ EL EM => ?_
  exact a_e ⟨Ea, EL.sb, EM.pk [0, 1, 2, 3, 4, 5, 6, 7]⟩
 rintro _ _ ⟨Ea, EN, Et⟩
 obtain ⟨xy, h_xy⟩ : ∃ q : List UInt64, q = nd (crN (nv x1) (nv y1) (nv x2) (nv y2) (nv (nd (z5 2 (nv xx) (nv yy))))) := ⟨_, rfl⟩
 rw [← h_xy] at Et
 have n_xy : zf xy = 4 := by rw [h_xy]; exact zl _ _
 refine ze <| wp_seq <| r_c (fun ac wo => ∃ (Eb : Nat), Env ac 117 [(2, pt El), (3, pt Em), (4, pt Ec), (5, pt Eh), (6, pt Ed), (7, pt Ee), (8, pt Ef), (9, pt Ea), (10, pt Eb)] ∧ Ev w [] wo [.box El ((zg x1) ++ ((zg y1) ++ (zg z1))) 44, .box Em ((zg x2) ++ ((zg y2) ++ (zg z2))) 44, .box Ec ((zg (zd 4 0)) ++ ((zg (zd 4 0)) ++ (zg (zd 4 0)))) 44, .box Eh (zg (nd bN)) 24, .box Ed (zg xx) 24, .box Ee (zg yy) 24, .box Ef (zg zz) 24, .box Ea (zg xy) 24, .box Eb (zg (nd (crN (nv y1) (nv z1) (nv y2) (nv z2) (nv (nd (z5 2 (nv yy) (nv zz))))))) 24]) ?_ ?_
 ·
  refine s_g1 [(2, pt El), (3, pt Em), (4, pt Ec), (5, pt Eh), (6, pt Ed), (7, pt Ee), (8, pt Ef), (9, pt Ea)] [0,1,2,3,4,5,6,7,8,9,10,11] [(45, .pointer (some ⟨El, 4, none⟩)), (46, .agg (zc (zg y1))), (47, .pointer (some ⟨El, 8, none⟩)), (48, .agg (zc (zg z1))), (49, .pointer (some ⟨Em, 4, none⟩)), (50, .agg (zc (zg y2))), (51, .pointer (some ⟨Em, 8, none⟩)), (52, .agg (zc (zg z2))), (53, .agg (zc (zg yy))), (54, .agg (zc (zg zz))), (55, .agg (zc (zg (nd (z5 2 (nv yy) (nv zz)))))), (56, .agg (zc (zg (nd (crN (nv y1) (nv z1) (nv y2) (nv z2) (nv (nd (z5 2 (nv yy) (nv zz)))))))))] 1 [(2, pt El), (3, pt Em), (4, pt Ec), (5, pt Eh), (6, pt Ed), (7, pt Ee), (8, pt Ef), (9, pt Ea), (56, .agg (zc (zg (nd (crN (nv y1) (nv z1) (nv y2) (nv z2) (nv (nd (z5 2 (nv yy) (nv zz)))))))))] 12 (zg (zd 4 0)) (EN.sb) (Et.trans (zN Et.heap)) ?_ fun _ _ Eb EO EP => ?_
  ·
   refine s_p [] <| s_a 0 4 4 (zg y1) rfl (by simp [za hx1, za hy1, za Eq, zu, zv]) (za hy1) <| s_p [] <| s_a 0 8 4 (zg z1) rfl (by simp [za hx1, za hy1, za Eq, zu, zv, zx]) (za Eq) <| s_p [] <| s_a 1 4 4 (zg y2) rfl (by simp [za hx2, za hy2, za Er, zu, zv]) (za hy2) ?_
   refine s_p [] <| s_a 1 8 4 (zg z2) rfl (by simp [za hx2, za hy2, za Er, zu, zv, zx]) (za Er) <| s_a 5 0 4 (zg yy) rfl (zn (za n_yy)) (za n_yy) <| s_a 6 0 4 (zg zz) rfl (zn (za n_zz)) (za n_zz) <| s_f (fun _ => psum_go _ yy zz n_yy n_zz) ?_
   refine s_f (fun _ => crossed_go _ y1 z1 y2 z2 (nd (z5 2 (nv yy) (nv zz))) hy1 Eq hy2 Er (zl _ _)) ?_
   exact s_n
  refine q_u 13 ?_
  refine zW 8 4 (zg (nd (crN (nv y1) (nv z1) (nv y2) (nv z2) (nv (nd (z5 2 (nv yy) (nv zz))))))) [.box El ((zg x1) ++ ((zg y1) ++ (zg z1))) 44, .box Em ((zg x2) ++ ((zg y2) ++ (zg z2))) 44, .box Ec ((zg (zd 4 0)) ++ ((zg (zd 4 0)) ++ (zg (zd 4 0)))) 44, .box Eh (zg (nd bN)) 24, .box Ed (zg xx) 24, .box Ee (zg yy) 24, .box Ef (zg zz) 24, .box Ea (zg xy) 24, .box Eb (zg (nd (crN (nv y1) (nv z1) (nv y2) (nv z2) (nv (nd (z5 2 (nv yy) (nv zz))))))) 24] EO EP rfl (za (zl _ _)) (za (zh)) (zq _) rfl fun _ _ EQ ER => ?_
  exact a_e ⟨Eb, EQ.sb, ER.pk [0, 1, 2, 3, 4, 5, 6, 7, 8]⟩
 rintro _ _ ⟨Eb, ES, Eu⟩
 obtain ⟨yz, h_yz⟩ : ∃ q : List UInt64, q = nd (crN (nv y1) (nv z1) (nv y2) (nv z2) (nv (nd (z5 2 (nv yy) (nv zz))))) := ⟨_, rfl⟩
 rw [← h_yz] at Eu
 have n_yz : zf yz = 4 := by rw [h_yz]; exact zl _ _
 refine ze <| wp_seq <| r_c (fun ac wo => ∃ (Eg : Nat), Env ac 117 [(2, pt El), (3, pt Em), (4, pt Ec), (5, pt Eh), (6, pt Ed), (7, pt Ee), (8, pt Ef), (9, pt Ea), (10, pt Eb), (11, pt Eg)] ∧ Ev w [] wo [.box El ((zg x1) ++ ((zg y1) ++ (zg z1))) 44, .box Em ((zg x2) ++ ((zg y2) ++ (zg z2))) 44, .box Ec ((zg (zd 4 0)) ++ ((zg (zd 4 0)) ++ (zg (zd 4 0)))) 44, .box Eh (zg (nd bN)) 24, .box Ed (zg xx) 24, .box Ee (zg yy) 24, .box Ef (zg zz) 24, .box Ea (zg xy) 24, .box Eb (zg yz) 24, .box Eg (zg (nd (crN (nv x1) (nv z1) (nv x2) (nv z2) (nv (nd (z5 2 (nv xx) (nv zz))))))) 24]) ?_ ?_
 ·
  refine s_g1 [(2, pt El), (3, pt Em), (4, pt Ec), (5, pt Eh), (6, pt Ed), (7, pt Ee), (8, pt Ef), (9, pt Ea), (10, pt Eb)] [0,1,2,3,4,5,6,7,8,9,10,11] [(57, pt El), (58, .agg (zc (zg x1))), (59, .pointer (some ⟨El, 8, none⟩)), (60, .agg (zc (zg z1))), (61, pt Em), (62, .agg (zc (zg x2))), (63, .pointer (some ⟨Em, 8, none⟩)), (64, .agg (zc (zg z2))), (65, .agg (zc (zg xx))), (66, .agg (zc (zg zz))), (67, .agg (zc (zg (nd (z5 2 (nv xx) (nv zz)))))), (68, .agg (zc (zg (nd (crN (nv x1) (nv z1) (nv x2) (nv z2) (nv (nd (z5 2 (nv xx) (nv zz)))))))))] 1 [(2, pt El), (3, pt Em), (4, pt Ec), (5, pt Eh), (6, pt Ed), (7, pt Ee), (8, pt Ef), (9, pt Ea), (10, pt Eb), (68, .agg (zc (zg (nd (crN (nv x1) (nv z1) (nv x2) (nv z2) (nv (nd (z5 2 (nv xx) (nv zz)))))))))] 12 (zg (zd 4 0)) (ES.sb) (Eu.trans (zN Eu.heap)) ?_ fun _ _ Eg ET EU => ?_
  ·
   refine s_p [] <| s_a 0 0 4 (zg x1) rfl (by simp [za hx1, za hy1, za Eq, zu, zv]) (za hx1) <| s_p [] <| s_a 0 8 4 (zg z1) rfl (by simp [za hx1, za hy1, za Eq, zu, zv, zx]) (za Eq) <| s_p [] <| s_a 1 0 4 (zg x2) rfl (by simp [za hx2, za hy2, za Er, zu, zv]) (za hx2) ?_
   refine s_p [] <| s_a 1 8 4 (zg z2) rfl (by simp [za hx2, za hy2, za Er, zu, zv, zx]) (za Er) <| s_a 4 0 4 (zg xx) rfl (zn (za n_xx)) (za n_xx) <| s_a 6 0 4 (zg zz) rfl (zn (za n_zz)) (za n_zz) <| s_f (fun _ => psum_go _ xx zz n_xx n_zz) ?_
   refine s_f (fun _ => crossed_go _ x1 z1 x2 z2 (nd (z5 2 (nv xx) (nv zz))) hx1 Eq hx2 Er (zl _ _)) ?_
   exact s_n
  refine q_u 13 ?_
  refine zW 9 4 (zg (nd (crN (nv x1) (nv z1) (nv x2) (nv z2) (nv (nd (z5 2 (nv xx) (nv zz))))))) _ ET EU rfl (za (zl _ _)) (za (zh)) (zq _) rfl fun _ _ EV EW => ?_
  exact a_e ⟨Eg, EV.sb, EW.pk [0, 1, 2, 3, 4, 5, 6, 7, 8, 9]⟩
 rintro _ _ ⟨Eg, EX, Ew⟩
 obtain ⟨xz, h_xz⟩ : ∃ q : List UInt64, q = nd (crN (nv x1) (nv z1) (nv x2) (nv z2) (nv (nd (z5 2 (nv xx) (nv zz))))) := ⟨_, rfl⟩
 rw [← h_xz] at Ew
 have n_xz : zf xz = 4 := by rw [h_xz]; exact zl _ _
 refine ze <| wp_seq <| r_c (fun ac wo => ∃ (Ei : Nat), Env ac 117 [(2, pt El), (3, pt Em), (4, pt Ec), (5, pt Eh), (6, pt Ed), (7, pt Ee), (8, pt Ef), (9, pt Ea), (10, pt Eb), (11, pt Eg), (12, pt Ei)] ∧ Ev w [] wo [.box El ((zg x1) ++ ((zg y1) ++ (zg z1))) 44, .box Em ((zg x2) ++ ((zg y2) ++ (zg z2))) 44, .box Ec ((zg (zd 4 0)) ++ ((zg (zd 4 0)) ++ (zg (zd 4 0)))) 44, .box Eh (zg (nd bN)) 24, .box Ed (zg xx) 24, .box Ee (zg yy) 24, .box Ef (zg zz) 24, .box Ea (zg xy) 24, .box Eb (zg yz) 24, .box Eg (zg xz) 24, .box Ei (zg (nd (thN (nv (nd (zZ 2 (nv xz) (nv (nd (zo 2 (nv (nd bN)) (nv zz)))))))))) 24]) ?_ ?_
 ·
  refine s_g1 [(2, pt El), (3, pt Em), (4, pt Ec), (5, pt Eh), (6, pt Ed), (7, pt Ee), (8, pt Ef), (9, pt Ea), (10, pt Eb), (11, pt Eg)] [0,1,2,3,4,5] [(69, .agg (zc (zg xz))), (70, .agg (zc (zg (nd bN)))), (71, .agg (zc (zg zz))), (72, .agg (zc (zg (nd (zo 2 (nv (nd bN)) (nv zz)))))), (73, .agg (zc (zg (nd (zZ 2 (nv xz) (nv (nd (zo 2 (nv (nd bN)) (nv zz))))))))), (74, .agg (zc (zg (nd (thN (nv (nd (zZ 2 (nv xz) (nv (nd (zo 2 (nv (nd bN)) (nv zz))))))))))))] 1 [(2, pt El), (3, pt Em), (4, pt Ec), (5, pt Eh), (6, pt Ed), (7, pt Ee), (8, pt Ef), (9, pt Ea), (10, pt Eb), (11, pt Eg), (74, .agg (zc (zg (nd (thN (nv (nd (zZ 2 (nv xz) (nv (nd (zo 2 (nv (nd bN)) (nv zz))))))))))))] 6 (zg (zd 4 0)) (EX.sb) (Ew.trans (zN Ew.heap)) ?_ fun _ _ Ei EY EZ => ?_
  ·
   refine s_a 9 0 4 (zg xz) rfl (zn (za n_xz)) (za n_xz) <| s_a 3 0 4 (zg (nd bN)) rfl (zn (za (zl _ _))) (za (zl _ _)) <| s_a 6 0 4 (zg zz) rfl (zn (za n_zz)) (za n_zz) <| s_f (fun _ => pmul_go _ (nd bN) zz (zl _ _) n_zz) ?_
   refine s_f (fun _ => pdif_go _ xz (nd (zo 2 (nv (nd bN)) (nv zz))) n_xz (zl _ _)) ?_
   refine s_f (fun _ => thrice_go _ (nd (zZ 2 (nv xz) (nv (nd (zo 2 (nv (nd bN)) (nv zz)))))) (zl _ _)) ?_
   exact s_n
  refine q_u 7 ?_
  refine zW 10 4 (zg (nd (thN (nv (nd (zZ 2 (nv xz) (nv (nd (zo 2 (nv (nd bN)) (nv zz)))))))))) [.box El ((zg x1) ++ ((zg y1) ++ (zg z1))) 44, .box Em ((zg x2) ++ ((zg y2) ++ (zg z2))) 44, .box Ec ((zg (zd 4 0)) ++ ((zg (zd 4 0)) ++ (zg (zd 4 0)))) 44, .box Eh (zg (nd bN)) 24, .box Ed (zg xx) 24, .box Ee (zg yy) 24, .box Ef (zg zz) 24, .box Ea (zg xy) 24, .box Eb (zg yz) 24, .box Eg (zg xz) 24, .box Ei (zg (nd (thN (nv (nd (zZ 2 (nv xz) (nv (nd (zo 2 (nv (nd bN)) (nv zz)))))))))) 24] EY EZ rfl (za (zl _ _)) (za (zh)) (zq _) rfl fun _ _ E0 E1 => ?_
  exact a_e ⟨Ei, E0.sb, E1.pk [0, 1, 2, 3, 4, 5, 6, 7, 8, 9, 10]⟩
 rintro _ _ ⟨Ei, E2, Ex⟩
 obtain ⟨u, h_u⟩ : ∃ q : List UInt64, q = nd (thN (nv (nd (zZ 2 (nv xz) (nv (nd (zo 2 (nv (nd bN)) (nv zz)))))))) := ⟨_, rfl⟩
 rw [← h_u] at Ex
 have n_u : zf u = 4 := by rw [h_u]; exact zl _ _
 refine ze <| wp_seq <| r_c (fun ac wo => ∃ (Ej : Nat) (Ek : Nat), Env ac 117 [(2, pt El), (3, pt Em), (4, pt Ec), (5, pt Eh), (6, pt Ed), (7, pt Ee), (8, pt Ef), (9, pt Ea), (10, pt Eb), (11, pt Eg), (12, pt Ei), (13, pt Ej), (14, pt Ek)] ∧ Ev w [] wo [.box El ((zg x1) ++ ((zg y1) ++ (zg z1))) 44, .box Em ((zg x2) ++ ((zg y2) ++ (zg z2))) 44, .box Ec ((zg (zd 4 0)) ++ ((zg (zd 4 0)) ++ (zg (zd 4 0)))) 44, .box Eh (zg (nd bN)) 24, .box Ed (zg xx) 24, .box Ee (zg yy) 24, .box Ef (zg zz) 24, .box Ea (zg xy) 24, .box Eb (zg yz) 24, .box Eg (zg xz) 24, .box Ei (zg u) 24, .box Ej (zg (nd (zZ 2 (nv yy) (nv u)))) 24, .box Ek (zg (nd (z5 2 (nv yy) (nv u)))) 24]) ?_ ?_
 ·
  refine s_g2 [(2, pt El), (3, pt Em), (4, pt Ec), (5, pt Eh), (6, pt Ed), (7, pt Ee), (8, pt Ef), (9, pt Ea), (10, pt Eb), (11, pt Eg), (12, pt Ei)] [0,1,2,3,4,5] [(75, .agg (zc (zg yy))), (76, .agg (zc (zg u))), (77, .agg (zc (zg (nd (zZ 2 (nv yy) (nv u)))))), (78, .agg (zc (zg yy))), (79, .agg (zc (zg u))), (80, .agg (zc (zg (nd (z5 2 (nv yy) (nv u))))))] 2 [(2, pt El), (3, pt Em), (4, pt Ec), (5, pt Eh), (6, pt Ed), (7, pt Ee), (8, pt Ef), (9, pt Ea), (10, pt Eb), (11, pt Eg), (12, pt Ei), (77, .agg (zc (zg (nd (zZ 2 (nv yy) (nv u)))))), (80, .agg (zc (zg (nd (z5 2 (nv yy) (nv u))))))] 6 7 (zg (zd 4 0)) (zg (zd 4 0)) (E2.sb) (Ex.trans (zN Ex.heap)) ?_ fun _ _ Ej Ek E3 E4 => ?_
  ·
   refine s_a 5 0 4 (zg yy) rfl (zn (za n_yy)) (za n_yy) <| s_a 10 0 4 (zg u) rfl (zn (za n_u)) (za n_u) <| s_f (fun _ => pdif_go _ yy u n_yy n_u) ?_
   refine s_a 5 0 4 (zg yy) rfl (zn (za n_yy)) (za n_yy) <| s_a 10 0 4 (zg u) rfl (zn (za n_u)) (za n_u) <| s_f (fun _ => psum_go _ yy u n_yy n_u) ?_
   exact s_n
  refine q_u 8 ?_
  refine zW 11 4 (zg (nd (zZ 2 (nv yy) (nv u)))) _ E3 E4 rfl (za (zl _ _)) (za (zh)) (zq _) rfl fun _ _ E5 E6 => q_u 9 ?_
  refine zW 12 4 (zg (nd (z5 2 (nv yy) (nv u)))) [.box El ((zg x1) ++ ((zg y1) ++ (zg z1))) 44, .box Em ((zg x2) ++ ((zg y2) ++ (zg z2))) 44, .box Ec ((zg (zd 4 0)) ++ ((zg (zd 4 0)) ++ (zg (zd 4 0)))) 44, .box Eh (zg (nd bN)) 24, .box Ed (zg xx) 24, .box Ee (zg yy) 24, .box Ef (zg zz) 24, .box Ea (zg xy) 24, .box Eb (zg yz) 24, .box Eg (zg xz) 24, .box Ei (zg u) 24, .box Ej (zg (nd (zZ 2 (nv yy) (nv u)))) 24, .box Ek (zg (nd (z5 2 (nv yy) (nv u)))) 24] E5 E6 rfl (za (zl _ _)) (za (zh)) (zq _) rfl fun _ _ E7 E8 => ?_
  exact a_e ⟨Ej, Ek, E7.sb, E8.pk [0, 1, 2, 3, 4, 5, 6, 7, 8, 9, 10, 11, 12]⟩
 rintro _ _ ⟨Ej, Ek, E9, Es⟩
 obtain ⟨low, h_low⟩ : ∃ q : List UInt64, q = nd (zZ 2 (nv yy) (nv u)) := ⟨_, rfl⟩
 rw [← h_low] at Es
 have n_low : zf low = 4 := by rw [h_low]; exact zl _ _
 obtain ⟨high, h_high⟩ : ∃ q : List UInt64, q = nd (z5 2 (nv yy) (nv u)) := ⟨_, rfl⟩
 rw [← h_high] at Es
 have n_high : zf high = 4 := by rw [h_high]; exact zl _ _
 refine ze <| wp_seq <| r_c (fun ac wo => ∃ (En : Nat), Env ac 117 [(2, pt El), (3, pt Em), (4, pt Ec), (5, pt Eh), (6, pt Ed), (7, pt Ee), (8, pt Ef), (9, pt Ea), (10, pt Eb), (11, pt Eg), (12, pt Ei), (13, pt Ej), (14, pt Ek), (15, pt En)] ∧ Ev w [] wo [.box El ((zg x1) ++ ((zg y1) ++ (zg z1))) 44, .box Em ((zg x2) ++ ((zg y2) ++ (zg z2))) 44, .box Ec ((zg (zd 4 0)) ++ ((zg (zd 4 0)) ++ (zg (zd 4 0)))) 44, .box Eh (zg (nd bN)) 24, .box Ed (zg xx) 24, .box Ee (zg yy) 24, .box Ef (zg zz) 24, .box Ea (zg xy) 24, .box Eb (zg yz) 24, .box Eg (zg xz) 24, .box Ei (zg u) 24, .box Ej (zg low) 24, .box Ek (zg high) 24, .box En (zg (nd (thN (nv (nd (zZ 2 (nv (nd (zZ 2 (nv (nd (zo 2 (nv (nd bN)) (nv xz)))) (nv (nd (thN (nv zz))))))) (nv xx))))))) 24]) ?_ ?_
 ·
  refine s_g1 [(2, pt El), (3, pt Em), (4, pt Ec), (5, pt Eh), (6, pt Ed), (7, pt Ee), (8, pt Ef), (9, pt Ea), (10, pt Eb), (11, pt Eg), (12, pt Ei), (13, pt Ej), (14, pt Ek)] [0,1,2,3,4,5,6,7,8] [(81, .agg (zc (zg (nd bN)))), (82, .agg (zc (zg xz))), (83, .agg (zc (zg (nd (zo 2 (nv (nd bN)) (nv xz)))))), (84, .agg (zc (zg zz))), (85, .agg (zc (zg (nd (thN (nv zz)))))), (86, .agg (zc (zg (nd (zZ 2 (nv (nd (zo 2 (nv (nd bN)) (nv xz)))) (nv (nd (thN (nv zz))))))))), (87, .agg (zc (zg xx))), (88, .agg (zc (zg (nd (zZ 2 (nv (nd (zZ 2 (nv (nd (zo 2 (nv (nd bN)) (nv xz)))) (nv (nd (thN (nv zz))))))) (nv xx)))))), (89, .agg (zc (zg (nd (thN (nv (nd (zZ 2 (nv (nd (zZ 2 (nv (nd (zo 2 (nv (nd bN)) (nv xz)))) (nv (nd (thN (nv zz))))))) (nv xx)))))))))] 1 [(2, pt El), (3, pt Em), (4, pt Ec), (5, pt Eh), (6, pt Ed), (7, pt Ee), (8, pt Ef), (9, pt Ea), (10, pt Eb), (11, pt Eg), (12, pt Ei), (13, pt Ej), (14, pt Ek), (89, .agg (zc (zg (nd (thN (nv (nd (zZ 2 (nv (nd (zZ 2 (nv (nd (zo 2 (nv (nd bN)) (nv xz)))) (nv (nd (thN (nv zz))))))) (nv xx)))))))))] 9 (zg (zd 4 0)) (E9.sb) (Es.trans (zN Es.heap)) ?_ fun _ _ En Ha Hb => ?_
  ·
   refine s_a 3 0 4 (zg (nd bN)) rfl (zn (za (zl _ _))) (za (zl _ _)) <| s_a 9 0 4 (zg xz) rfl (zn (za n_xz)) (za n_xz) <| s_f (fun _ => pmul_go _ (nd bN) xz (zl _ _) n_xz) ?_
   refine s_a 6 0 4 (zg zz) rfl (zn (za n_zz)) (za n_zz) <| s_f (fun _ => thrice_go _ zz n_zz) ?_
   refine s_f (fun _ => pdif_go _ (nd (zo 2 (nv (nd bN)) (nv xz))) (nd (thN (nv zz))) (zl _ _) (zl _ _)) ?_
   refine s_a 4 0 4 (zg xx) rfl (zn (za n_xx)) (za n_xx) <| s_f (fun _ => pdif_go _ (nd (zZ 2 (nv (nd (zo 2 (nv (nd bN)) (nv xz)))) (nv (nd (thN (nv zz)))))) xx (zl _ _) n_xx) ?_
   refine s_f (fun _ => thrice_go _ (nd (zZ 2 (nv (nd (zZ 2 (nv (nd (zo 2 (nv (nd bN)) (nv xz)))) (nv (nd (thN (nv zz))))))) (nv xx))) (zl _ _)) ?_
   exact s_n
  refine q_u 10 ?_
  refine zW 13 4 (zg (nd (thN (nv (nd (zZ 2 (nv (nd (zZ 2 (nv (nd (zo 2 (nv (nd bN)) (nv xz)))) (nv (nd (thN (nv zz))))))) (nv xx))))))) _ Ha Hb rfl (za (zl _ _)) (za (zh)) (zq _) rfl fun _ _ Hc Hd => ?_
  exact a_e ⟨En, Hc.sb, Hd.pk [0, 1, 2, 3, 4, 5, 6, 7, 8, 9, 10, 11, 12, 13]⟩
 rintro _ _ ⟨En, He, Ey⟩
 obtain ⟨v, h_v⟩ : ∃ q : List UInt64, q = nd (thN (nv (nd (zZ 2 (nv (nd (zZ 2 (nv (nd (zo 2 (nv (nd bN)) (nv xz)))) (nv (nd (thN (nv zz))))))) (nv xx))))) := ⟨_, rfl⟩
 rw [← h_v] at Ey
 have n_v : zf v = 4 := by rw [h_v]; exact zl _ _
 refine ze <| wp_seq <| r_c (fun ac wo => ∃ (Eo : Nat), Env ac 117 [(2, pt El), (3, pt Em), (4, pt Ec), (5, pt Eh), (6, pt Ed), (7, pt Ee), (8, pt Ef), (9, pt Ea), (10, pt Eb), (11, pt Eg), (12, pt Ei), (13, pt Ej), (14, pt Ek), (15, pt En), (16, pt Eo)] ∧ Ev w [] wo [.box El ((zg x1) ++ ((zg y1) ++ (zg z1))) 44, .box Em ((zg x2) ++ ((zg y2) ++ (zg z2))) 44, .box Ec ((zg (zd 4 0)) ++ ((zg (zd 4 0)) ++ (zg (zd 4 0)))) 44, .box Eh (zg (nd bN)) 24, .box Ed (zg xx) 24, .box Ee (zg yy) 24, .box Ef (zg zz) 24, .box Ea (zg xy) 24, .box Eb (zg yz) 24, .box Eg (zg xz) 24, .box Ei (zg u) 24, .box Ej (zg low) 24, .box Ek (zg high) 24, .box En (zg v) 24, .box Eo (zg (nd (zZ 2 (nv (nd (thN (nv xx)))) (nv (nd (thN (nv zz))))))) 24]) ?_ ?_
 ·
  refine s_g1 [(2, pt El), (3, pt Em), (4, pt Ec), (5, pt Eh), (6, pt Ed), (7, pt Ee), (8, pt Ef), (9, pt Ea), (10, pt Eb), (11, pt Eg), (12, pt Ei), (13, pt Ej), (14, pt Ek), (15, pt En)] [0,1,2,3,4] [(90, .agg (zc (zg xx))), (91, .agg (zc (zg (nd (thN (nv xx)))))), (92, .agg (zc (zg zz))), (93, .agg (zc (zg (nd (thN (nv zz)))))), (94, .agg (zc (zg (nd (zZ 2 (nv (nd (thN (nv xx)))) (nv (nd (thN (nv zz)))))))))] 1 [(2, pt El), (3, pt Em), (4, pt Ec), (5, pt Eh), (6, pt Ed), (7, pt Ee), (8, pt Ef), (9, pt Ea), (10, pt Eb), (11, pt Eg), (12, pt Ei), (13, pt Ej), (14, pt Ek), (15, pt En), (94, .agg (zc (zg (nd (zZ 2 (nv (nd (thN (nv xx)))) (nv (nd (thN (nv zz)))))))))] 5 (zg (zd 4 0)) (He.sb) (Ey.trans (zN Ey.heap)) ?_ fun _ _ Eo Hf Hg => ?_
  ·
   refine s_a 4 0 4 (zg xx) rfl (zn (za n_xx)) (za n_xx) <| s_f (fun _ => thrice_go _ xx n_xx) ?_
   refine s_a 6 0 4 (zg zz) rfl (zn (za n_zz)) (za n_zz) <| s_f (fun _ => thrice_go _ zz n_zz) ?_
   refine s_f (fun _ => pdif_go _ (nd (thN (nv xx))) (nd (thN (nv zz))) (zl _ _) (zl _ _)) ?_
   exact s_n
  refine q_u 6 ?_
  refine zW 14 4 (zg (nd (zZ 2 (nv (nd (thN (nv xx)))) (nv (nd (thN (nv zz))))))) [.box El ((zg x1) ++ ((zg y1) ++ (zg z1))) 44, .box Em ((zg x2) ++ ((zg y2) ++ (zg z2))) 44, .box Ec ((zg (zd 4 0)) ++ ((zg (zd 4 0)) ++ (zg (zd 4 0)))) 44, .box Eh (zg (nd bN)) 24, .box Ed (zg xx) 24, .box Ee (zg yy) 24, .box Ef (zg zz) 24, .box Ea (zg xy) 24, .box Eb (zg yz) 24, .box Eg (zg xz) 24, .box Ei (zg u) 24, .box Ej (zg low) 24, .box Ek (zg high) 24, .box En (zg v) 24, .box Eo (zg (nd (zZ 2 (nv (nd (thN (nv xx)))) (nv (nd (thN (nv zz))))))) 24] Hf Hg rfl (za (zl _ _)) (za (zh)) (zq _) rfl fun _ _ Hh Hi => ?_
  exact a_e ⟨Eo, Hh.sb, Hi.pk [0, 1, 2, 3, 4, 5, 6, 7, 8, 9, 10, 11, 12, 13, 14]⟩
 rintro _ _ ⟨Eo, Hj, Ez⟩
 obtain ⟨ww, h_ww⟩ : ∃ q : List UInt64, q = nd (zZ 2 (nv (nd (thN (nv xx)))) (nv (nd (thN (nv zz))))) := ⟨_, rfl⟩
 rw [← h_ww] at Ez
 have n_ww : zf ww = 4 := by rw [h_ww]; exact zl _ _
 refine ze <| wp_seq <| r_c (fun ac wo => Env ac 117 [(2, pt El), (3, pt Em), (4, pt Ec), (5, pt Eh), (6, pt Ed), (7, pt Ee), (8, pt Ef), (9, pt Ea), (10, pt Eb), (11, pt Eg), (12, pt Ei), (13, pt Ej), (14, pt Ek), (15, pt En), (16, pt Eo)] ∧ Ev w [] wo [.box El ((zg x1) ++ ((zg y1) ++ (zg z1))) 44, .box Em ((zg x2) ++ ((zg y2) ++ (zg z2))) 44, .box Ec ((zg (nd (zZ 2 (nv (nd (zo 2 (nv xy) (nv high)))) (nv (nd (zo 2 (nv yz) (nv v))))))) ++ ((zg (nd (z5 2 (nv (nd (zo 2 (nv high) (nv low)))) (nv (nd (zo 2 (nv ww) (nv v))))))) ++ (zg (nd (z5 2 (nv (nd (zo 2 (nv yz) (nv low)))) (nv (nd (zo 2 (nv xy) (nv ww))))))))) 44, .box Eh (zg (nd bN)) 24, .box Ed (zg xx) 24, .box Ee (zg yy) 24, .box Ef (zg zz) 24, .box Ea (zg xy) 24, .box Eb (zg yz) 24, .box Eg (zg xz) 24, .box Ei (zg u) 24, .box Ej (zg low) 24, .box Ek (zg high) 24, .box En (zg v) 24, .box Eo (zg ww) 24]) ?_ ?_
 ·
  refine s_g0 [(2, pt El), (3, pt Em), (4, pt Ec), (5, pt Eh), (6, pt Ed), (7, pt Ee), (8, pt Ef), (9, pt Ea), (10, pt Eb), (11, pt Eg), (12, pt Ei), (13, pt Ej), (14, pt Ek), (15, pt En), (16, pt Eo)] [0,1,2,3,4,5,6,7,8,9,10,11,12,13,14,15,16,17,18,19,20,21] [(95, .agg (zc (zg xy))), (96, .agg (zc (zg high))), (97, .agg (zc (zg (nd (zo 2 (nv xy) (nv high)))))), (98, .agg (zc (zg yz))), (99, .agg (zc (zg v))), (100, .agg (zc (zg (nd (zo 2 (nv yz) (nv v)))))), (101, .agg (zc (zg (nd (zZ 2 (nv (nd (zo 2 (nv xy) (nv high)))) (nv (nd (zo 2 (nv yz) (nv v))))))))), (102, .agg (zc (zg high))), (103, .agg (zc (zg low))), (104, .agg (zc (zg (nd (zo 2 (nv high) (nv low)))))), (105, .agg (zc (zg ww))), (106, .agg (zc (zg v))), (107, .agg (zc (zg (nd (zo 2 (nv ww) (nv v)))))), (108, .agg (zc (zg (nd (z5 2 (nv (nd (zo 2 (nv high) (nv low)))) (nv (nd (zo 2 (nv ww) (nv v))))))))), (109, .agg (zc (zg yz))), (110, .agg (zc (zg low))), (111, .agg (zc (zg (nd (zo 2 (nv yz) (nv low)))))), (112, .agg (zc (zg xy))), (113, .agg (zc (zg ww))), (114, .agg (zc (zg (nd (zo 2 (nv xy) (nv ww)))))), (115, .agg (zc (zg (nd (z5 2 (nv (nd (zo 2 (nv yz) (nv low)))) (nv (nd (zo 2 (nv xy) (nv ww))))))))), (116, .agg (zc ((zg (nd (zZ 2 (nv (nd (zo 2 (nv xy) (nv high)))) (nv (nd (zo 2 (nv yz) (nv v))))))) ++ ((zg (nd (z5 2 (nv (nd (zo 2 (nv high) (nv low)))) (nv (nd (zo 2 (nv ww) (nv v))))))) ++ (zg (nd (z5 2 (nv (nd (zo 2 (nv yz) (nv low)))) (nv (nd (zo 2 (nv xy) (nv ww)))))))))))] 1 [(2, pt El), (3, pt Em), (4, pt Ec), (5, pt Eh), (6, pt Ed), (7, pt Ee), (8, pt Ef), (9, pt Ea), (10, pt Eb), (11, pt Eg), (12, pt Ei), (13, pt Ej), (14, pt Ek), (15, pt En), (16, pt Eo), (116, .agg (zc ((zg (nd (zZ 2 (nv (nd (zo 2 (nv xy) (nv high)))) (nv (nd (zo 2 (nv yz) (nv v))))))) ++ ((zg (nd (z5 2 (nv (nd (zo 2 (nv high) (nv low)))) (nv (nd (zo 2 (nv ww) (nv v))))))) ++ (zg (nd (z5 2 (nv (nd (zo 2 (nv yz) (nv low)))) (nv (nd (zo 2 (nv xy) (nv ww)))))))))))] (Hj.sb) (Ez.trans (zN Ez.heap)) ?_ fun _ _ Hk Hl => ?_
  ·
   refine s_a 7 0 4 (zg xy) rfl (zn (za n_xy)) (za n_xy) <| s_a 12 0 4 (zg high) rfl (zn (za n_high)) (za n_high) <| s_f (fun _ => pmul_go _ xy high n_xy n_high) ?_
   refine s_a 8 0 4 (zg yz) rfl (zn (za n_yz)) (za n_yz) <| s_a 13 0 4 (zg v) rfl (zn (za n_v)) (za n_v) <| s_f (fun _ => pmul_go _ yz v n_yz n_v) ?_
   refine s_f (fun _ => pdif_go _ (nd (zo 2 (nv xy) (nv high))) (nd (zo 2 (nv yz) (nv v))) (zl _ _) (zl _ _)) ?_
   refine s_a 12 0 4 (zg high) rfl (zn (za n_high)) (za n_high) <| s_a 11 0 4 (zg low) rfl (zn (za n_low)) (za n_low) <| s_f (fun _ => pmul_go _ high low n_high n_low) ?_
   refine s_a 14 0 4 (zg ww) rfl (zn (za n_ww)) (za n_ww) <| s_a 13 0 4 (zg v) rfl (zn (za n_v)) (za n_v) <| s_f (fun _ => pmul_go _ ww v n_ww n_v) ?_
   refine s_f (fun _ => psum_go _ (nd (zo 2 (nv high) (nv low))) (nd (zo 2 (nv ww) (nv v))) (zl _ _) (zl _ _)) ?_
   refine s_a 8 0 4 (zg yz) rfl (zn (za n_yz)) (za n_yz) <| s_a 11 0 4 (zg low) rfl (zn (za n_low)) (za n_low) <| s_f (fun _ => pmul_go _ yz low n_yz n_low) ?_
   refine s_a 7 0 4 (zg xy) rfl (zn (za n_xy)) (za n_xy) <| s_a 14 0 4 (zg ww) rfl (zn (za n_ww)) (za n_ww) <| s_f (fun _ => pmul_go _ xy ww n_xy n_ww) ?_
   refine s_f (fun _ => psum_go _ (nd (zo 2 (nv yz) (nv low))) (nd (zo 2 (nv xy) (nv ww))) (zl _ _) (zl _ _)) ?_
   refine s_p [] ?_
   exact s_n
  refine q_u 22 ?_
  refine zW 2 12 ((zg (nd (zZ 2 (nv (nd (zo 2 (nv xy) (nv high)))) (nv (nd (zo 2 (nv yz) (nv v))))))) ++ ((zg (nd (z5 2 (nv (nd (zo 2 (nv high) (nv low)))) (nv (nd (zo 2 (nv ww) (nv v))))))) ++ (zg (nd (z5 2 (nv (nd (zo 2 (nv yz) (nv low)))) (nv (nd (zo 2 (nv xy) (nv ww))))))))) _ Hk Hl rfl (zp (za (zl _ _)) (zp (za (zl _ _)) (za (zl _ _)))) (zp (za (zh)) (zp (za (zh)) (za (zh)))) (one_app (zq _) (one_app (zq _) (zq _))) rfl fun _ _ Hm Hn => ?_
  exact a_e ⟨Hm.sb, Hn.pk [0, 1, 2, 3, 4, 5, 6, 7, 8, 9, 10, 11, 12, 13, 14]⟩
 rintro _ _ ⟨Ho, EA⟩
 refine ze <| wp_ret <| zU (v := .agg (zc ((zg (nd (zZ 2 (nv (nd (zo 2 (nv xy) (nv high)))) (nv (nd (zo 2 (nv yz) (nv v))))))) ++ ((zg (nd (z5 2 (nv (nd (zo 2 (nv high) (nv low)))) (nv (nd (zo 2 (nv ww) (nv v))))))) ++ (zg (nd (z5 2 (nv (nd (zo 2 (nv yz) (nv low)))) (nv (nd (zo 2 (nv xy) (nv ww))))))))))) (t := 4) (T := 44) (ad := ⟨Ec, 0, none⟩) Ho (by kernel_rfl) (by kernel_rfl) (zC (t := 44) (k := 2) (off := 0) (m := 12) (xs := (zg (nd (zZ 2 (nv (nd (zo 2 (nv xy) (nv high)))) (nv (nd (zo 2 (nv yz) (nv v))))))) ++ ((zg (nd (z5 2 (nv (nd (zo 2 (nv high) (nv low)))) (nv (nd (zo 2 (nv ww) (nv v))))))) ++ (zg (nd (z5 2 (nv (nd (zo 2 (nv yz) (nv low)))) (nv (nd (zo 2 (nv xy) (nv ww))))))))) EA rfl (zn (zp (za (zl _ _)) (zp (za (zl _ _)) (za (zl _ _))))) (zp (za (zl _ _)) (zp (za (zl _ _)) (za (zl _ _)))) (by kernel_rfl) (by kernel_rfl)) ?_
 have e0 : nd (zZ 2 (nv (nd (zo 2 (nv xy) (nv high)))) (nv (nd (zo 2 (nv yz) (nv v))))) = nd (wtA outX (nv x1) (nv y1) (nv z1) (nv x2) (nv y2) (nv z2)) := by
  subst h_ww h_v h_high h_low h_u h_xz h_yz h_xy h_zz h_yy h_xx
  simp only [nv_m2, nv_a2, nv_s2, nv_th, nv_cr, nv_b, wtA, outX, outY, outZ, uN, vN, wN]
 have e1 : nd (z5 2 (nv (nd (zo 2 (nv high) (nv low)))) (nv (nd (zo 2 (nv ww) (nv v))))) = nd (wtA outY (nv x1) (nv y1) (nv z1) (nv x2) (nv y2) (nv z2)) := by
  subst h_ww h_v h_high h_low h_u h_xz h_yz h_xy h_zz h_yy h_xx
  simp only [nv_m2, nv_a2, nv_s2, nv_th, nv_cr, nv_b, wtA, outX, outY, outZ, uN, vN, wN]
 have e2 : nd (z5 2 (nv (nd (zo 2 (nv yz) (nv low)))) (nv (nd (zo 2 (nv xy) (nv ww))))) = nd (wtA outZ (nv x1) (nv y1) (nv z1) (nv x2) (nv y2) (nv z2)) := by
  subst h_ww h_v h_high h_low h_u h_xz h_yz h_xy h_zz h_yy h_xx
  simp only [nv_m2, nv_a2, nv_s2, nv_th, nv_cr, nv_b, wtA, outX, outY, outZ, uN, vN, wN]
 exact ⟨ret3 e0 e1 e2, EA.pk []⟩
end Go.Proofs.YtpfhmbbiadpbeaaGreat
namespace Go.Dbr
open Go Go.RowKit
section
variable {P : Program} {w : World}
theorem eqF_cons {d : Nat} {f : Field} {fs : List Field} {xs ys : Array Value} {a b : Value} {r r' : Bool} (hn : (f.name == "_") = false) (pa : (part f.type xs f.offset).run P w = .ok a w) (pb : (part f.type ys f.offset).run P w = .ok b w)
    (he : (Op.equalIn d f.type a b).run P w = .ok r w) (hr : (Op.eqFields d xs ys fs).run P w = .ok r' w) : (Op.eqFields d xs ys (f :: fs)).run P w = .ok (r && r') w := by
  have hne : f.name ≠ "_" := by simpa using hn
  unfold Op.eqFields
  rw [if_pos hne]
  simp only [Sem.run_bind, pa, pb, he, Result.andThen_ok]
  cases r with
  | true => simpa using hr
  | false => simp
theorem part_seg {t : TypeId} {cs xs : List Value} {off m : Nat} (ha : (fun w => (isAgg t).run P w) = fun w => .ok true w) (hs : (fun w => (sizeOf t).run P w) = fun w => .ok m w) (hx : (cs.drop off).take m = xs) : (part t cs.toArray off).run P w = .ok (.agg xs.toArray) w := by
  unfold part
  simp only [Sem.run_bind, congrFun ha w, Result.andThen_ok, if_true, congrFun hs w, Sem.run_pure, List.extract_toArray]
  rw [← hx, List.extract_eq_take_drop, Xr]
theorem part_one {t : TypeId} {cs : List Value} {off : Nat} {v : Value} (ha : (fun w => (isAgg t).run P w) = fun w => .ok false w) (hx : cs[off]? = some v) : (part t cs.toArray off).run P w = .ok v w := by
  unfold part
  have h2 : cs.toArray[off]? = some v := by simpa using hx
  simp only [Sem.run_bind, congrFun ha w, Result.andThen_ok, J1, if_false, h2, Sem.run_pure]
def fl (P : Program) (t : TypeId) (i : Nat) : Field := ((P.fieldsOf t).toList)[i]?.getD default
def pnt (z : Bool) (x y : List UInt64) : List Value := .bool z :: (zg x ++ zg y)
theorem equal_u64 {t e : TypeId} {m dd : Nat} (hu : P.underlying t = some (.array m e)) (he : P.underlying e = some (.int .u64)) (ha : (fun w => (isAgg e).run P w) = fun w => .ok false w) (hc : P.cellsOf e = 1) {x y : List UInt64} (hx : x.length = m) (hy : y.length = m) :
    (Op.equalIn (dd + 1 + 1) t (.agg (zg x).toArray) (.agg (zg y).toArray)).run P w = .ok (x == y) w := by
  obtain ⟨ti, hi⟩ : ∃ ti, P.info? e = some ti := by
    cases hi : P.info? e with
    | none => simp [Program.cellsOf, hi] at hc
    | some ti => exact ⟨ti, rfl⟩
  rw [u64s_ints, u64s_ints, run_equalIn_array _ _ _ _ hu hi, hc, run_eqItems_int he ha dd _ _ _ (fun j hj => by have := QH.1 hj; simp; omega), all_get (by simpa using hx) (by simpa using hy), u64s_inj]
structure IsPnt (P : Program) (t e : TypeId) : Prop where
  un : P.underlying t = some (.struct (P.fieldsOf t))
  held : P.stoodInHeld t = false
  fs : (P.fieldsOf t).toList = [fl P t 0, fl P t 1, fl P t 2]
  n : [(fl P t 0).name == "_", (fl P t 1).name == "_", (fl P t 2).name == "_"] = [false, false, false]
  o : [(fl P t 0).offset, (fl P t 1).offset, (fl P t 2).offset] = [0, 1, 5]
  b : P.underlying (fl P t 0).type = some .bool
  x : P.underlying (fl P t 1).type = some (.array 4 e)
  y : P.underlying (fl P t 2).type = some (.array 4 e)
  eu : P.underlying e = some (.int .u64)
  c : P.cellsOf e = 1
  ae : (fun w => (isAgg e).run P w) = fun w => .ok false w
  ab : (fun w => (isAgg (fl P t 0).type).run P w) = fun w => .ok false w
  ax : (fun w => (isAgg (fl P t 1).type).run P w) = fun w => .ok true w
  ay : (fun w => (isAgg (fl P t 2).type).run P w) = fun w => .ok true w
  sx : (fun w => (sizeOf (fl P t 1).type).run P w) = fun w => .ok 4 w
  sy : (fun w => (sizeOf (fl P t 2).type).run P w) = fun w => .ok 4 w
  g : P.eqGuardType P.depth t = false
theorem IsPnt.eq {t e : TypeId} (h : IsPnt P t e) {z z' : Bool} {x y x' y' : List UInt64} (hx : x.length = 4) (hy : y.length = 4) (hx' : x'.length = 4) (hy' : y'.length = 4) (d : Nat) :
    (Op.equalIn (d + 1 + 1 + 1) t (.agg (pnt z x y).toArray) (.agg (pnt z' x' y').toArray)).run P w = .ok ((z == z') && ((x == x') && (y == y'))) w := by
  have ho := h.o
  have hn := h.n
  simp only [List.cons.injEq, and_true] at ho hn
  obtain ⟨o0, o1, o2⟩ := ho
  obtain ⟨n0, n1, n2⟩ := hn
  rw [run_equalIn_struct w _ t _ _ h.un h.held, h.fs]
  have lx := Jm x
  have lx' := Jm x'
  have ly := Jm y
  have ly' := Jm y'
  rw [hx] at lx
  rw [hx'] at lx'
  rw [hy] at ly
  rw [hy'] at ly'
  refine eqF_cons n0 (a := .bool z) (b := .bool z') (r := z == z') (by rw [o0]; exact part_one h.ab rfl) (by rw [o0]; exact part_one h.ab rfl) (run_equalIn_bool' w _ _ _ _ h.b) ?_
  refine eqF_cons n1 (a := .agg (zg x).toArray) (b := .agg (zg x').toArray) (r := x == x') (by rw [o1]; exact part_seg h.ax h.sx (by simp only [pnt, Q8, J5]; rw [← lx, XU])) (by rw [o1]; exact part_seg h.ax h.sx (by simp only [pnt, Q8, J5]; rw [← lx', XU])) (equal_u64 h.x h.eu h.ae h.c hx hx') ?_
  have hr : (Op.eqFields (d + 1 + 1) (pnt z x y).toArray (pnt z' x' y').toArray [fl P t 2]).run P w = .ok ((y == y') && true) w := by
    refine eqF_cons n2 (a := .agg (zg y).toArray) (b := .agg (zg y').toArray) (r := y == y') ?_ ?_ (equal_u64 h.y h.eu h.ae h.c hy hy') (by unfold Op.eqFields; rfl)
    · rw [o2]
      refine part_seg h.ay h.sy ?_
      simp only [pnt, Q8]
      rw [← lx, Kv, zx (by omega)]
    · rw [o2]
      refine part_seg h.ay h.sy ?_
      simp only [pnt, Q8]
      rw [← lx', Kv, zx (by omega)]
  rw [Bool.and_true] at hr
  exact hr
theorem pnt_eqop {t e : TypeId} {a b : Operand} (h : IsPnt P t e) {z z' : Bool} {x y x' y' : List UInt64} (hx : x.length = 4) (hy : y.length = 4) (hx' : x'.length = 4) (hy' : y'.length = 4) (w : World) :
    (eqOp .eql t a b (.agg (pnt z x y).toArray) (.agg (pnt z' x' y').toArray)).run P w = .ok (.bool ((z == z') && ((x == x') && (y == y')))) w := by
  simp only [eqOp, Sem.run_bind, run_eqGuard_agg w _ _ _ _ _ _ h.g, Result.andThen_ok, run_eql_struct, h.eq hx hy hx' hy']
end
end Go.Dbr
namespace Go.Dbr
open Go Go.RowKit
theorem fold_set (off : Nat) (X : List Value) : ∀ (A Z R : List Value) (k : Nat), Z.length = X.length → off + k = A.length → (X.zipIdx k).foldl (fun (cs : Array Value) (p : Value × Nat) => cs.setIfInBounds (off + p.2) p.1) (A ++ (Z ++ R)).toArray = (A ++ (X ++ R)).toArray := by
  induction X with
  | nil =>
    intro A Z R k hz _
    have : Z = [] := List.eq_nil_of_length_eq_zero hz
    subst this
    rfl
  | cons x r ih =>
    intro A Z R k hz hk
    cases Z with
    | nil => cases hz
    | cons z q =>
      rw [List.zipIdx_cons, List.foldl_cons]
      have h1 : (A ++ (z :: q ++ R)).toArray.setIfInBounds (off + k) x = ((A ++ [x]) ++ (q ++ R)).toArray := by
        rw [hk]
        simp
      simp only [h1]
      rw [ih (A ++ [x]) q R (k + 1) (by simpa using hz) (by simp; omega)]
      simp
theorem fill_at {place : Nat → Option (Nat × Nat)} {i : Nat} {v : Value} {X A Z R : List Value} {rest : List (Nat × Value)} {c : Array Value} (hp : place i = some (A.length, X.length)) (hv : v.cells = X.toArray) (hz : Z.length = X.length) (h : Instr.fill place (A ++ (X ++ R)).toArray rest = some c) :
    Instr.fill place (A ++ (Z ++ R)).toArray ((i, v) :: rest) = some c := by
  have hb : (decide (X.toArray.size ≠ X.length) || decide (A.length + X.toArray.size > (A ++ (Z ++ R)).toArray.size)) = false := by
    simp
    omega
  unfold Instr.fill
  simp only [hp]
  rw [hv, ← Array.foldl_toList, Array.toList_zipIdx, hb]
  rw [← h, ← fold_set A.length X A Z R 0 hz rfl]
  rfl
structure FB where
  m : Nat
  z : List Value
  x : Option (Nat × Value × List Value)
def FB.out (f : FB) : List Value := match f.x with
  | some (_, _, l) => l
  | none => f.z
def fbZ : List FB → List Value
  | [] => []
  | [f] => f.z
  | f :: g :: r => f.z ++ fbZ (g :: r)
def fbX : List FB → List Value
  | [] => []
  | [f] => f.out
  | f :: g :: r => f.out ++ fbX (g :: r)
def fbP : List FB → List (Nat × Value)
  | [] => []
  | f :: r => match f.x with
    | some (i, v, _) => (i, v) :: fbP r
    | none => fbP r
def FbOk (place : Nat → Option (Nat × Nat)) : Nat → List FB → Prop
  | _, [] => True
  | a, f :: r => f.z.length = f.m ∧ f.out.length = f.m ∧ (∀ i v l, f.x = some (i, v, l) → place i = some (a, f.m) ∧ v.cells = l.toArray) ∧ FbOk place (a + f.m) r
theorem fbZ_cons (f : FB) (r : List FB) : fbZ (f :: r) = f.z ++ fbZ r := by cases r <;> simp [fbZ]
theorem fbX_cons (f : FB) (r : List FB) : fbX (f :: r) = f.out ++ fbX r := by cases r <;> simp [fbX]
theorem fill_go {place : Nat → Option (Nat × Nat)} : ∀ (fs : List FB) (A : List Value), FbOk place A.length fs → Instr.fill place (A ++ fbZ fs).toArray (fbP fs) = some (A ++ fbX fs).toArray
  | [], A, _ => rfl
  | f :: r, A, h => by
    obtain ⟨hz, ho, hx, hr⟩ := h
    rw [fbZ_cons, fbX_cons]
    have ih := fill_go r (A ++ f.out) (by rw [zE, ho]; exact hr)
    rw [Qo, Qo] at ih
    cases hxx : f.x with
    | none =>
      have e1 : f.out = f.z := by unfold FB.out; rw [hxx]
      have e2 : fbP (f :: r) = fbP r := by rw [fbP, hxx]
      rw [e2]
      rw [e1] at ih ⊢
      exact ih
    | some q =>
      obtain ⟨i, v, l⟩ := q
      obtain ⟨h1, h2⟩ := hx i v l hxx
      have e1 : f.out = l := by unfold FB.out; rw [hxx]
      have e2 : fbP (f :: r) = (i, v) :: fbP r := by rw [fbP, hxx]
      rw [e2]
      rw [e1] at ih ho ⊢
      exact fill_at (by rw [ho]; exact h1) h2 (by rw [hz, ho]) ih
theorem fb_y {place : Nat → Option (Nat × Nat)} {a m i : Nat} {z l : List Value} {v : Value} {r : List FB} (hz : z.length = m) (hl : l.length = m) (hr : FbOk place (a + m) r) (hp : place i = some (a, m) := by kernel_rfl) (hv : v.cells = l.toArray := by kernel_rfl) : FbOk place a (⟨m, z, some (i, v, l)⟩ :: r) :=
  ⟨hz, hl, fun i' v' l' h => by cases h; exact ⟨hp, hv⟩, hr⟩
theorem fb_n {place : Nat → Option (Nat × Nat)} {a m : Nat} {z : List Value} {r : List FB} (hz : z.length = m) (hr : FbOk place (a + m) r) : FbOk place a (⟨m, z, none⟩ :: r) :=
  ⟨hz, hz, (fun i' v' l' h => by cases h), hr⟩
theorem run_built {P : Program} {t : TypeId} (ps : List (Nat × Nat)) (fs : List FB) (h : FbOk (ps.toArray[·]?) 0 fs) (w : World) (hb : (fun q => P.built t q) = (fun q => Instr.fill (ps.toArray[·]?) (fbZ fs).toArray q) := by kernel_rfl) :
    (Instr.build t (fbP fs).toArray).run P w = .ok (.agg (fbX fs).toArray) w := run_build w t (fbP fs).toArray (fbX fs).toArray (by
  have h1 := fill_go fs [] h
  rw [XF, XF] at h1
  rw [← h1]
  exact congrFun hb (fbP fs))
end Go.Dbr
