import Derived.Test.YtlnogkmnklfjlaaGreatDoorSg6
import Derived.Test.YtlnogkmnklfjlaaGreatDoorSg8
import Derived.Laws.StructEq
import Derived.Laws.Tables
open List renaming getD → za, length → zb, replicate → zd, toArray → zg, length_replicate → zi, take → zn, drop → zo, set → zp, length_take → zs, length_append → zC, getD_eq_getElem?_getD → zI, getElem?_append_left → zW, drop_append → z4, take_append → z5, getElem?_append_right → z6, all_eq_true → Zq, append_nil → Zr, not_mem_nil → Zs, take_of_length_le → Zt, contains_iff_mem → ZC, map_append → ZI, getElem?_take → ZT, append_assoc → Qj, take_append_drop → Qv, drop_drop → Qy, getElem?_drop → QJ, mem_cons_of_mem → QN, mem_cons_self → QX, map_cons → QY, mem_cons → QZ, ext_getElem? → Q9, range → Ye, mem_append → Yi, mem_map → Y0, nodup_cons → JV, nodup_append → Xe, map_map → Xr, drop_of_length_le → Xw, length_singleton → XB, mem_append_right → XC, nodup_nil → XK, mem_map_of_mem → XU, countP_cons → Kk, map_nil → KA
open UInt64 renaming ofNat → zc, toUInt8 → zj, toNat → zw, toNat_and → QV
open Go.Dbr renaming then_normal → ze, u64s_lenh → zf, u64s → zh, region_from → zk, uv64 → zm, load_whole → zq, u64s_one → zt, block_normal → zv, then_exit → zy, len_app → zE, bys_lenh → zH, block_exit → zL, m_gw → zQ, d_cell1 → z9, m_aw → Zp, one_app → QB, look → QR, opTy → YP, look_self → Jq, nodupO_spec → Jr, nodupO → Xs, zeroV → Kt
open Go.Proofs.YtlnogkmnklfjlaaGreatDoor renaming nds_len → zl, mulM → zr, powM → zJ, lb_len → zY, subM → z7, addM → Zh, nv_nd → Qw, wtE_len → J3, sub_len → Xf, zero16 → Xv
open Go.Dbr.Ev renaming cellAgg → zB, drew → zO
open Nat renaming mod_eq_of_lt → zG, mod_lt → ZL, pow_add → Qc, lt_or_ge → Qe, pow_mul → Qx, beq → Q6, testBit → YY, testBit_or → Xb, beq_eq → Xu
open UInt8 renaming ofNat → zK
open Bool renaming and_eq_true → Za, cond_false → QT, cond_true → Q5, or_eq_true → Jl
open Array renaming getElem?_setIfInBounds_ne → Zw, getElem?_eq_some_iff → ZZ, getElem?_toList → Qf, all_eq_true_iff_forall_mem → Yp, ext → KC
open BitVec renaming ofInt → ZW
namespace Go.Dbr
open Go Go.RowKit
set_option linter.unusedSimpArgs false
set_option linter.unusedVariables false
def cloStep (acc : List Nat) : List Edge → Nat
  | [] => 0
  | e :: r => bif Region.binds .any e then 2 ^ e.on ||| acc.getD e.on 0 ||| cloStep acc r else cloStep acc r
def clo : List Oper → List Nat → List Nat
  | [], acc => acc
  | o :: r, acc => clo r (acc ++ [cloStep acc o.after.toList])
theorem cloStep_spec {acc : List Nat} {i : Nat} : ∀ (es : List Edge), YY (cloStep acc es) i = true → ∃ e ∈ es, Region.binds .any e = true ∧ (e.on = i ∨ YY (acc.getD e.on 0) i = true)
  | [], h => by simp [cloStep] at h
  | e :: r, h => by
    unfold cloStep at h
    cases hb : Region.binds .any e with
    | true =>
      rw [hb, Q5, Xb, Xb, Jl, Jl] at h
      rcases h with (h | h) | h
      · refine ⟨e, QX .., hb, .inl ?_⟩
        rw [Nat.testBit_two_pow] at h
        exact of_decide_eq_true h
      · exact ⟨e, QX .., hb, .inr h⟩
      · obtain ⟨e', he, hr⟩ := cloStep_spec r h
        exact ⟨e', QN _ he, hr⟩
    | false =>
      rw [hb, QT] at h
      obtain ⟨e', he, hr⟩ := cloStep_spec r h
      exact ⟨e', QN _ he, hr⟩
theorem WaitsT.of {ops : Array Oper} {i s : Nat} {o : Oper} {e : Edge} (ho : ops[s]? = some o) (he : e ∈ o.after) (hb : Region.binds .any e = true) (h : e.on = i ∨ WaitsT ops i e.on) : WaitsT ops i s := h.elim (.one ho he hb) (.step ho he hb)
theorem clo_spec {ops : Array Oper} {i : Nat} : ∀ (l : List Oper) (acc : List Nat), (∀ (k : Nat) (o : Oper), l[k]? = some o → ops[acc.length + k]? = some o) → (∀ j, YY (acc.getD j 0) i = true → WaitsT ops i j) → ∀ j, YY ((clo l acc).getD j 0) i = true → WaitsT ops i j
  | [], acc, _, h, j, hj => h j hj
  | o :: r, acc, hl, h, j, hj => by
    refine clo_spec r (acc ++ [cloStep acc o.after.toList]) (fun k o' hk => ?_) (fun j' hj' => ?_) j hj
    · have := hl (k + 1) o' (by simpa using hk)
      rw [zC, XB]
      rw [show acc.length + (k + 1) = acc.length + 1 + k by omega] at this
      exact this
    · rcases Nat.lt_trichotomy j' acc.length with c | c | c
      · rw [zI, zW c, ← zI] at hj'
        exact h j' hj'
      · subst c
        rw [zI, z6 (Nat.le_refl _), Nat.sub_self] at hj'
        obtain ⟨e, he, hb, hr⟩ := cloStep_spec _ hj'
        have ho := hl 0 o rfl
        rw [Nat.add_zero] at ho
        exact .of ho (by simpa using he) hb (hr.imp id (h _))
      · rw [zI, List.getElem?_eq_none (by rw [zC, XB]; omega)] at hj'
        simp at hj'
def maskOf : List Nat → Nat
  | [] => 0
  | i :: r => 2 ^ i ||| maskOf r
theorem maskOf_spec {i : Nat} : ∀ {l : List Nat}, i ∈ l → YY (maskOf l) i = true
  | j :: r, h => by
    unfold maskOf
    rw [Xb]
    rcases QZ.1 h with rfl | h'
    · rw [Nat.testBit_two_pow_self, Bool.true_or]
    · rw [maskOf_spec h', Bool.or_true]
def restB (I : List Nat) (m : Nat) : List Nat → Nat → Bool
  | [], _ => true
  | c :: r, j => (I.contains j || Q6 (m &&& c) m) && restB I m r (j + 1)
theorem restB_spec {I : List Nat} {m : Nat} : ∀ (l : List Nat) (k : Nat), restB I m l k = true → ∀ (j : Nat) (c : Nat), l[j]? = some c → I.contains (k + j) = true ∨ m &&& c = m
  | [], k, _, j, c, h => by simp at h
  | x :: r, k, h, j, c, hc => by
    unfold restB at h
    simp only [Za, Jl, Xu] at h
    cases j with
    | zero => simp at hc; subst hc; exact h.1
    | succ j =>
      have := restB_spec r (k + 1) h.2 j c (by simpa using hc)
      rwa [show k + 1 + j = k + (j + 1) by omega] at this
def inB (ops : Array Oper) (I : List Nat) (l0 : List (Nat × Value)) (i : Nat) : Bool := match ops[i]? with
  | some o => (o.after.all fun e => !Region.binds .any e || (Nat.blt e.on i && I.contains e.on)) && (match o.dst with | some d => (QR l0 d).isNone | none => true)
  | none => false
def stabB (ops : Array Oper) (I : List Nat) (l0 : List (Nat × Value)) : Bool := Xs ops.toList 0 && (I.all fun i => inB ops I l0 i) && restB I (maskOf I) (clo ops.toList []) 0 && Q6 (clo ops.toList []).length ops.size
def srcOf (ops : Array Oper) (l0 L : List (Nat × Value)) (i t : Nat) : Option Value := match ops[i]? with
  | some o => bif (o.after.any fun e => Region.binds .any e && (match ops[e.on]? with | some q => (match q.dst with | some c => Q6 c t | none => false) | none => false)) then QR L t else QR l0 t
  | none => none
def oneL (ops : Array Oper) (L : List (Nat × Value)) (i : Nat) : List (Nat × Value) := match ops[i]? with
  | some o => (match o.dst with | some d => [(d, (QR L d).getD undef)] | none => [])
  | none => []
theorem leastN {P : Nat → Prop} : ∀ n, P n → ∃ k, P k ∧ ∀ j, j < k → ¬ P j := fun n => by
  induction n using Nat.strongRecOn with
  | _ n ih =>
    intro h
    by_cases e : ∃ j, j < n ∧ P j
    · obtain ⟨j, hj, hp⟩ := e
      exact ih j hj hp
    · exact ⟨n, h, fun j hj hp => e ⟨j, hj, hp⟩⟩
theorem look_map_some2 {f : Nat → Option Value} {l : List (Nat × Value)} (h : l.map (fun p => f p.1) = l.map (fun p => some p.2)) : ∀ i v, QR l i = some v → f i = some v := by
  induction l with
  | nil => intro i v hv; cases hv
  | cons x r ih =>
    intro i v hv
    simp only [QY, List.cons.injEq] at h
    unfold QR at hv
    cases hb : Q6 x.1 i with
    | true =>
      rw [hb, Q5] at hv
      cases hv
      have := Nat.eq_of_beq_eq_true hb
      rw [← this]
      exact h.1
    | false =>
      rw [hb, QT] at hv
      exact ih h.2 i v hv
section
variable {P : Program} {ops : Array Oper} {Q : Exit → Act → World → Prop} {n : Nat} {S : World → Prop} {l0 L : List (Nat × Value)} {I : List Nat}
def Stab (P : Program) (ops : Array Oper) (Q : Exit → Act → World → Prop) (n : Nat) (S : World → Prop) (l0 L : List (Nat × Value)) (i : Nat) : Prop :=
  ∃ E : List (Nat × Value), E.map (fun p => srcOf ops l0 L i p.1) = E.map (fun p => some p.2) ∧ ∀ a w, Env a n E → S w → wpOp P ops Q i (fun a' w' => Env a' n (oneL ops L i) ∧ S w') a w
structure Know (ops : Array Oper) (n : Nat) (l0 L : List (Nat × Value)) (I : List Nat) (a : Act) (listed : Array Bool) : Prop where
  size : a.tmps.size = n
  defers : a.defers = []
  old : ∀ t v, QR l0 t = some v → a.tmps[t]? = some v
  new : ∀ i o d, i ∈ I → ops[i]? = some o → o.dst = some d → listed.getD i false = true → a.tmps[d]? = some ((QR L d).getD undef)
theorem wpOp_put {i : Nat} {a : Act} {w : World} {K : Act → World → Prop} {o : Oper} (ho : ops[i]? = some o) (hd : ∀ a' w', K a' w' → a'.defers = []) (h : wpOp P ops Q i K a w) : wpOp P ops Q i (fun a' w' => K a' w' ∧ ∃ v, a' = a.put o.dst v) a w := by
  unfold wpOp at *
  simp only [ho] at h ⊢
  split
  · rename_i hw
    simp only [hw, if_true] at h
    refine h.imp (fun hh => ?_) id
    unfold Oper.wp at *
    generalize (execOp a.eval o).run P w = r at *
    cases r with
    | ok nx w' =>
      cases nx <;> simp only [Oper.upon] at hh ⊢
      all_goals first
        | exact ⟨hh, _, rfl⟩
        | exact Calls.mono hh (fun e w'' he => by cases e <;> first | exact ⟨he, _, rfl⟩ | exact he)
        | exact Rows.mono hh (fun _ _ he => ⟨he, _, rfl⟩)
        | (have := hd _ _ hh; cases hdst : o.dst <;> simp [Act.put, hdst] at this)
        | exact hh
    | halt x w' => cases x <;> simp only [Oper.upon] at hh ⊢ <;> exact hh
  · rename_i hw
    simp only [hw] at h
    exact ⟨h, _, rfl⟩
def cntF (l : Array Bool) : Nat := l.toList.countP fun b => !b
theorem cnt_set {l : List Bool} : ∀ {i : Nat}, l[i]? = some false → (l.set i true).countP (fun b => !b) + 1 = l.countP fun b => !b := by
  induction l with
  | nil => intro i h; simp at h
  | cons x r ih =>
    intro i h
    cases i with
    | zero =>
      simp at h
      subst h
      simp [Kk]
    | succ i =>
      have := ih (i := i) (by simpa using h)
      simp only [List.set_cons_succ, Kk]
      omega
theorem cntF_set {l : Array Bool} {i : Nat} (h : l.getD i true = false) : cntF (l.setIfInBounds i true) + 1 = cntF l := by
  have hi : i < l.size := by
    rcases Qe i l.size with g | g
    · exact g
    · simp [g] at h
  have e : l.toList[i]? = some false := by
    simp [hi] at h
    simp [hi, h]
  have := cnt_set e
  unfold cntF
  rw [Array.toList_setIfInBounds]
  exact this
def LI (ops : Array Oper) (I : List Nat) : Array Bool := ((Ye ops.size).map fun j => I.contains j).toArray
def envI (ops : Array Oper) (l0 L : List (Nat × Value)) (i : Nat) : List (Nat × Value) := match ops[i]? with
  | some o => (o.looksAt ops).map fun t => (t, (srcOf ops l0 L i t).getD undef)
  | none => []
theorem stab_go {J : Array Bool → Act → World → Prop} (hB : stabB ops I l0 = true)
    (step : ∀ i ∈ I, ∀ (listed : Array Bool) (a : Act) (w : World) (o : Oper), ops[i]? = some o → listed.size = ops.size → listed.getD i true = false → (∀ e ∈ o.after, Region.binds .any e = true → e.on ∈ I ∧ listed.getD e.on false = true) → (∀ d, o.dst = some d → QR l0 d = none) → J listed a w → wpOp P ops Q i (fun a' w' => J (listed.setIfInBounds i true) a' w') a w)
    (next : ∀ a w, J (LI ops I) a w → wpAny P .any ops Q (cntF (LI ops I)) (LI ops I) a w) :
    ∀ (m : Nat) (listed : Array Bool) (a : Act) (w : World), m = cntF listed → listed.size = ops.size → (∀ j, listed.getD j false = true → j ∈ I) → Closed ops listed → J listed a w → wpAny P .any ops Q m listed a w := by
  have hB' := hB
  unfold stabB at hB'
  simp only [Za, Zq, Xu] at hB'
  obtain ⟨⟨⟨hnd, hin⟩, hrest⟩, hlen⟩ := hB'
  have inS : ∀ i ∈ I, ∃ o, ops[i]? = some o ∧ (∀ e ∈ o.after, Region.binds .any e = true → e.on < i ∧ e.on ∈ I) ∧ ∀ d, o.dst = some d → QR l0 d = none := fun i hi => by
    have h := hin i hi
    unfold inB at h
    cases ho : ops[i]? with
    | none => rw [ho] at h; cases h
    | some o =>
      rw [ho] at h
      simp only [Za] at h
      refine ⟨o, rfl, fun e he hb => ?_, fun d hd => ?_⟩
      · have h1 := (Yp.1 h.1) e he
        rw [hb] at h1
        simp only [Bool.not_true, Bool.false_or, Za, Nat.blt_eq] at h1
        exact ⟨h1.1, ZC.1 h1.2⟩
      · have h2 := h.2
        rw [hd] at h2
        exact Option.isNone_iff_eq_none.1 h2
  intro m
  induction m with
  | zero =>
    intro listed a w hm hs hsub hcl hk
    have hall : ∀ j, j < ops.size → listed.getD j false = true := fun j hj => by
      cases h : listed.getD j false with
      | true => rfl
      | false =>
        have : listed.getD j true = false := by
          have hj' : j < listed.size := by omega
          simp [hj'] at h ⊢
          exact h
        have := cntF_set this
        omega
    have e : listed = LI ops I := by
      refine KC (by simp [LI, hs]) fun j h1 h2 => ?_
      have h3 := hall j (by omega)
      have h4 := hsub j h3
      simp [h1] at h3
      simp [LI, h3, ZC, h4]
    subst e
    rw [hm]
    exact next a w hk
  | succ m ih =>
    intro listed a w hm hs hsub hcl hk
    by_cases hall : ∀ i ∈ I, listed.getD i false = true
    · have e : listed = LI ops I := by
        refine KC (by simp [LI, hs]) fun j h1 h2 => ?_
        by_cases hj : j ∈ I
        · have h3 := hall j hj
          simp [h1] at h3
          simp [LI, h3, ZC, hj]
        · cases h3 : listed.getD j false with
          | true => exact absurd (hsub j h3) hj
          | false =>
            simp [h1] at h3
            simp [LI, h3, ZC, hj]
      subst e
      rw [hm]
      exact next a w hk
    · have ⟨i0, h0⟩ : ∃ i, i ∈ I ∧ listed.getD i false = false := Classical.byContradiction fun hno => hall fun i hi => by
        cases h : listed.getD i false with
        | true => rfl
        | false => exact absurd ⟨i, hi, h⟩ hno
      obtain ⟨k, ⟨hkI, hku⟩, hmin⟩ := Go.Dbr.leastN (P := fun i => i ∈ I ∧ listed.getD i false = false) i0 h0
      obtain ⟨ok, hok, hafk, _⟩ := inS k hkI
      have hkt : listed.getD k true = false := by
        have : k < listed.size := by rw [hs]; exact (ZZ.1 hok).1
        simp [this] at hku ⊢
        exact hku
      have hkr : k ∈ Region.ready .any ops listed := mem_ready.2 ⟨hkt, ok, hok, fun e he hb => by
        obtain ⟨h1, h2⟩ := hafk e he hb
        cases h : listed.getD e.on false with
        | true => rfl
        | false => exact absurd ⟨h2, h⟩ (hmin _ h1)⟩
      refine ⟨fun hr => absurd hkr (by rw [hr]; exact Zs), fun i hi => ?_⟩
      obtain ⟨hiu, o, ho, haf⟩ := mem_ready.1 hi
      have hiI : i ∈ I := Classical.byContradiction fun hno => by
        have hib := (ZZ.1 ho).1
        have hc : (clo ops.toList [])[i]? = some ((clo ops.toList []).getD i 0) := by
          rw [zI, List.getElem?_eq_getElem (by omega)]
          rfl
        rcases restB_spec _ 0 hrest i _ hc with h | h
        · rw [Nat.zero_add] at h
          exact hno (ZC.1 h)
        · have hb := maskOf_spec hkI
          rw [← h, Nat.testBit_and, Za] at hb
          have hw := clo_spec (ops := ops) (i := k) ops.toList [] (fun j o' hj => by simpa using hj) (fun j hj => by simp at hj) i hb.2
          have := hw.no hcl o ho haf
          rw [hku] at this
          cases this
      obtain ⟨o', ho', hafI, hdn⟩ := inS i hiI
      rw [ho] at ho'
      cases ho'
      refine wpOp_mono (fun a' w' h => ?_) (step i hiI listed a w o ho hs hiu (fun e he hb => ⟨(hafI e he hb).2, haf e he hb⟩) hdn hk)
      exact ih (listed.setIfInBounds i true) a' w' (by have := cntF_set hiu; omega) (by simp [hs]) (fun j hj => by
        by_cases e : i = j
        · exact e ▸ hiI
        · refine hsub j ?_
          simp [Zw e] at hj ⊢
          exact hj) (hcl.set hi) h
theorem stab_step (hnd : Xs ops.toList 0 = true) {i : Nat} {listed : Array Bool} {a : Act} {w : World} {o : Oper} (hiI : i ∈ I) (hst : Stab P ops Q n S l0 L i) (ho : ops[i]? = some o) (hs : listed.size = ops.size) (hiu : listed.getD i true = false)
    (haf : ∀ e ∈ o.after, Region.binds .any e = true → e.on ∈ I ∧ listed.getD e.on false = true) (hdn : ∀ d, o.dst = some d → QR l0 d = none) (hk : Know ops n l0 L I a listed) (hS : S w) :
    wpOp P ops Q i (fun a' w' => Know ops n l0 L I a' (listed.setIfInBounds i true) ∧ S w' ∧ ∃ v, a' = a.put o.dst v) a w := by
  obtain ⟨E, hE, hrun⟩ := hst
  have env : Env a n E := ⟨hk.size, hk.defers, fun t v hv => by
    have h1 := look_map_some2 hE t v hv
    unfold srcOf at h1
    rw [ho] at h1
    simp only at h1
    cases hany : (o.after.any fun e => Region.binds .any e && (match ops[e.on]? with | some q => (match q.dst with | some c => Q6 c t | none => false) | none => false)) with
    | true =>
      rw [hany, Q5] at h1
      obtain ⟨e, he, hb⟩ := Array.any_eq_true'.1 hany
      simp only [Za] at hb
      cases hq : ops[e.on]? with
      | none => rw [hq] at hb; cases hb.2
      | some q =>
        rw [hq] at hb
        cases hc : q.dst with
        | none => simp [hc] at hb
        | some c =>
          simp only [hc, Xu] at hb
          have := hk.new e.on q t (haf e he hb.1).1 hq (by rw [hc, hb.2]) (haf e he hb.1).2
          rw [h1] at this
          exact this
    | false =>
      rw [hany, QT] at h1
      exact hk.old t v h1⟩
  have hrun2 := wpOp_put ho (fun a' w' h => h.1.defers) (hrun a w env hS)
  refine wpOp_mono (fun a' w' h => ?_) hrun2
  obtain ⟨⟨hE', hS'⟩, v', rfl⟩ := h
  have keep : ∀ t, o.dst ≠ some t → (a.put o.dst v').tmps[t]? = a.tmps[t]? := fun t ht => by
    cases hd : o.dst with
    | none => rfl
    | some d =>
      have : d ≠ t := fun e => ht (by rw [hd, e])
      simp [Act.put, Zw this]
  refine ⟨⟨hE'.size, hE'.defers, fun t v hv => ?_, fun i' oi d hi' hoi hd hl => ?_⟩, hS', v', rfl⟩
  · rw [keep t (fun e => by rw [hdn t e] at hv; cases hv)]
    exact hk.old t v hv
  · by_cases e : i = i'
    · subst e
      rw [ho] at hoi
      cases hoi
      refine hE'.slot d _ ?_
      unfold oneL
      rw [ho]
      simp only [hd, Jq]
    · rw [keep d (fun g => e ((Jr _ _ hnd).2 i i' o oi d (by rw [Qf]; exact ho) (by rw [Qf]; exact hoi) g hd))]
      refine hk.new i' oi d hi' hoi hd ?_
      simp [Zw e] at hl ⊢
      exact hl
end
section
variable {P : Program} {ops : Array Oper} {Q : Exit → Act → World → Prop} {n : Nat} {l0 L : List (Nat × Value)} {I A : List Nat} {a : Act} {w w0 : World} {L0 Lh : List Ent}
def StabL (P : Program) (ops : Array Oper) (Q : Exit → Act → World → Prop) (n : Nat) (w0 : World) (L0 Lh : List Ent) (l0 L : List (Nat × Value)) : List Nat → Prop
  | [] => True
  | i :: r => (∀ M, Stab P ops Q n (fun wv => Ev w0 L0 wv (Lh ++ M)) l0 L i) ∧ StabL P ops Q n w0 L0 Lh l0 L r
theorem StabL.all : ∀ {I : List Nat}, StabL P ops Q n w0 L0 Lh l0 L I → ∀ i ∈ I, ∀ M, Stab P ops Q n (fun wv => Ev w0 L0 wv (Lh ++ M)) l0 L i
  | _ :: _, h, i, hi => (QZ.1 hi).elim (fun e => e ▸ h.1) (h.2.all i)
def srcE (ops : Array Oper) (I : List Nat) (l0 L : List (Nat × Value)) (t : Nat) : Option Value := bif I.any fun i => (match opD ops i with | some d => Q6 d t | none => false) then QR L t else QR l0 t
theorem Know.env {listed : Array Bool} {l' : List (Nat × Value)} (k : Know ops n l0 L I a listed) (hl : ∀ i ∈ I, listed.getD i false = true) (h : l'.map (fun p => srcE ops I l0 L p.1) = l'.map (fun p => some p.2)) : Env a n l' := ⟨k.size, k.defers, fun t v hv => by
  have h1 := look_map_some2 h t v hv
  unfold srcE at h1
  cases hany : (I.any fun i => (match opD ops i with | some d => Q6 d t | none => false)) with
  | true =>
    rw [hany, Q5] at h1
    obtain ⟨i, hi, hb⟩ := List.any_eq_true.1 hany
    unfold opD at hb
    cases ho : ops[i]? with
    | none => rw [ho] at hb; cases hb
    | some o =>
      rw [ho] at hb
      simp only at hb
      cases hd : o.dst with
      | none => rw [hd] at hb; cases hb
      | some d =>
        rw [hd] at hb
        simp only [Xu] at hb
        subst hb
        have := k.new i o d hi ho hd (hl i hi)
        rw [h1] at this
        exact this
  | false =>
    rw [hany, QT] at h1
    exact k.old t v h1⟩
theorem put_keep {o : Oper} {v : Value} {t : Nat} (ht : o.dst ≠ some t) : (a.put o.dst v).tmps[t]? = a.tmps[t]? := by
  cases hd : o.dst with
  | none => rfl
  | some d =>
    have : d ≠ t := fun e => ht (by rw [hd, e])
    simp [Act.put, Zw this]
theorem Know.put {listed : Array Bool} {i : Nat} {o : Oper} {v : Value} (hnd : Xs ops.toList 0 = true) (hk : Know ops n l0 L I a listed) (ho : ops[i]? = some o) (hiI : i ∉ I) (hdn : ∀ d, o.dst = some d → QR l0 d = none) : Know ops n l0 L I (a.put o.dst v) (listed.setIfInBounds i true) := by
  refine ⟨?_, ?_, fun t v hv => ?_, fun i' oi d hi' hoi hd hl => ?_⟩
  · cases o.dst with
    | none => exact hk.size
    | some d => simp [Act.put, hk.size]
  · cases o.dst with
    | none => exact hk.defers
    | some d => exact hk.defers
  · rw [put_keep (fun e => by rw [hdn t e] at hv; cases hv)]
    exact hk.old t v hv
  · have e : i ≠ i' := fun e => hiI (e ▸ hi')
    rw [put_keep (fun g => e ((Jr _ _ hnd).2 i i' o oi d (by rw [Qf]; exact ho) (by rw [Qf]; exact hoi) g hd))]
    refine hk.new i' oi d hi' hoi hd ?_
    simp [Zw e] at hl ⊢
    exact hl
def Alc (ops : Array Oper) (A : List Nat) (cA : Nat → List Value) (tA : Nat → TypeId) (w0 : World) (L0 Lh : List Ent) (listed : Array Bool) (a : Act) (w : World) : Prop :=
  ∃ bs : List (Nat × Nat), (bs.map Prod.fst).Nodup ∧ (∀ i, i ∈ bs.map Prod.fst ↔ i ∈ A ∧ listed.getD i false = true) ∧ (∀ p ∈ bs, ∀ o d, ops[p.1]? = some o → o.dst = some d → a.tmps[d]? = some (.pointer (some ⟨p.2, 0, none⟩))) ∧ Ev w0 L0 w (Lh ++ bs.map fun p => .box p.2 (cA p.1) (tA p.1))
def alcB (ops : Array Oper) (I A : List Nat) : Bool := (I.all fun i => match ops[i]? with
    | some o => o.after.all fun e => !Region.binds .any e || I.contains e.on
    | none => false) && (A.all fun i => !I.contains i && (match opD ops i with | some _ => true | none => false)) && nodupB A
def dN (ops : Array Oper) (i : Nat) : Nat := (opD ops i).getD 0
theorem Alc.put {cA : Nat → List Value} {tA : Nat → TypeId} {listed : Array Bool} {i : Nat} {o : Oper} {v : Value} {w' : World} {bs : List (Nat × Nat)} (hnd : Xs ops.toList 0 = true) (ho : ops[i]? = some o) (hiA : i ∉ A)
    (h1 : (bs.map Prod.fst).Nodup) (h2 : ∀ i, i ∈ bs.map Prod.fst ↔ i ∈ A ∧ listed.getD i false = true) (h3 : ∀ p ∈ bs, ∀ o d, ops[p.1]? = some o → o.dst = some d → a.tmps[d]? = some (.pointer (some ⟨p.2, 0, none⟩))) (h4 : Ev w0 L0 w' (Lh ++ bs.map fun p => .box p.2 (cA p.1) (tA p.1))) :
    Alc ops A cA tA w0 L0 Lh (listed.setIfInBounds i true) (a.put o.dst v) w' := by
  refine ⟨bs, h1, fun j => ?_, fun p hp o' d ho' hd => ?_, h4⟩
  · rw [h2 j]
    by_cases e : i = j
    · subst e
      exact ⟨fun h => absurd h.1 hiA, fun h => absurd h.1 hiA⟩
    · simp [Zw e]
  · have hpA := ((h2 p.1).1 (XU hp)).1
    have e : i ≠ p.1 := fun e => hiA (e ▸ hpA)
    rw [put_keep (fun g => e ((Jr _ _ hnd).2 i p.1 o o' d (by rw [Qf]; exact ho) (by rw [Qf]; exact ho') g hd))]
    exact h3 p hp o' d ho' hd
theorem Alc.step {cA : Nat → List Value} {tA : Nat → TypeId} {listed : Array Bool} {i : Nat} {o : Oper} (hnd : Xs ops.toList 0 = true) (ho : ops[i]? = some o) (hiA : i ∈ A) (hiI : i ∉ I) (hs : listed.size = ops.size) (hiu : listed.getD i true = false)
    (hdn : ∀ d, o.dst = some d → QR l0 d = none) (hk : Know ops n l0 L I a listed) (hA : Alc ops A cA tA w0 L0 Lh listed a w)
    (hop : opAt ops n i [] = some (.run (opD ops i) (nv (Instr.alloc (tA i) true (.tuple #[]))))) (hz : (fun w => (zeroValue (tA i)).run P w) = fun w => .ok (Kt P (tA i)) w) (hc : (Kt P (tA i)).cells.toList = cA i) (hsome : ∃ d, opD ops i = some d) :
    wpOp P ops Q i (fun a' w' => Know ops n l0 L I a' (listed.setIfInBounds i true) ∧ Alc ops A cA tA w0 L0 Lh (listed.setIfInBounds i true) a' w') a w := by
  obtain ⟨bs, h1, h2, h3, h4⟩ := hA
  have hil : i < listed.size := by rw [hs]; exact (ZZ.1 ho).1
  have hif : listed.getD i false = false := by
    simp [hil] at hiu ⊢
    exact hiu
  have E0 : Env a n [] := ⟨hk.size, hk.defers, fun t v hv => by cases hv⟩
  have hrun : wpOp P ops Q i (fun a' w' => ∃ b, Env a' n (putl (opD ops i) (.pointer (some ⟨b, 0, none⟩)) []) ∧ Ev w0 L0 w' ((Lh ++ bs.map fun p => .box p.2 (cA p.1) (tA p.1)) ++ [.box b (cA i) (tA i)])) a w :=
    m_z (tA i) (cA i) E0 h4 (fun a' w' b E' H' => ⟨b, E', H'⟩) hop hz hc
  refine wpOp_mono (fun a' w' h => ?_) (wpOp_put ho (fun a' w' h => by obtain ⟨b, E', _⟩ := h; exact E'.defers) hrun)
  obtain ⟨⟨b, E', H'⟩, v, rfl⟩ := h
  obtain ⟨d, hd⟩ := hsome
  have hod : o.dst = some d := by
    unfold opD at hd
    rw [ho] at hd
    exact hd
  refine ⟨hk.put hnd ho hiI hdn, bs ++ [(i, b)], ?_, fun j => ?_, fun p hp o' d' ho' hd' => ?_, ?_⟩
  · rw [ZI, Xe]
    refine ⟨h1, by simp, fun x hx y hy e => ?_⟩
    simp at hy
    have := ((h2 x).1 hx).2
    rw [e, hy, hif] at this
    cases this
  · rw [ZI, Yi, h2 j]
    by_cases e : i = j
    · subst e
      simp [hil, hiA]
    · have e' : j ≠ i := fun g => e g.symm
      simp [Zw e, e']
  · rcases Yi.1 hp with hp | hp
    · have hpl := ((h2 p.1).1 (XU hp)).2
      have e : i ≠ p.1 := fun e => by rw [← e, hif] at hpl; cases hpl
      rw [put_keep (fun g => e ((Jr _ _ hnd).2 i p.1 o o' d' (by rw [Qf]; exact ho) (by rw [Qf]; exact ho') g hd'))]
      exact h3 p hp o' d' ho' hd'
    · simp at hp
      subst hp
      rw [ho] at ho'
      cases ho'
      rw [hod] at hd'
      cases hd'
      refine E'.slot d _ ?_
      rw [hd]
      exact Jq _ _ _
  · rw [ZI, ← Qj]
    exact H'
def blkOf (bs : List (Nat × Nat)) (i : Nat) : Nat := ((bs.find? fun p => p.1 == i).map Prod.snd).getD 0
theorem look_alc {ops : Array Oper} {B : Nat → Nat} {l' : List (Nat × Value)} {t : Nat} {v : Value} : ∀ (A : List Nat), QR ((A.map fun i => (dN ops i, Value.pointer (some ⟨B i, 0, none⟩))) ++ l') t = some v → (∃ i ∈ A, dN ops i = t ∧ v = .pointer (some ⟨B i, 0, none⟩)) ∨ QR l' t = some v
  | [], h => .inr h
  | i :: r, h => by
    rw [QY, List.cons_append] at h
    by_cases e : dN ops i = t
    · left
      refine ⟨i, QX .., e, ?_⟩
      subst e
      rw [Jq] at h
      cases h
      rfl
    · rw [look_other _ _ e] at h
      rcases look_alc r h with ⟨j, hj, h1⟩ | h1
      · exact .inl ⟨j, QN _ hj, h1⟩
      · exact .inr h1
end
section
variable {P : Program} {ops : Array Oper} {Q : Exit → Act → World → Prop} {n : Nat} {l0 L : List (Nat × Value)} {I A : List Nat} {a : Act} {w w0 : World} {L0 Lh : List Ent}
theorem Alc.order {cA : Nat → List Value} {tA : Nat → TypeId} {listed : Array Bool} (hA : Alc ops A cA tA w0 L0 Lh listed a w) (hnA : A.Nodup) (hl : ∀ i ∈ A, listed.getD i false = true) (hd : ∀ i ∈ A, ∃ o d, ops[i]? = some o ∧ o.dst = some d) :
    ∃ B : Nat → Nat, (∀ i ∈ A, a.tmps[dN ops i]? = some (.pointer (some ⟨B i, 0, none⟩))) ∧ Ev w0 L0 w (Lh ++ A.map fun i => .box (B i) (cA i) (tA i)) := by
  obtain ⟨bs, h1, h2, h3, h4⟩ := hA
  have hB : ∀ i ∈ A, ∃ k, ∃ p : Nat × Nat, bs[k]? = some p ∧ p.1 = i ∧ blkOf bs i = p.2 := fun i hi => by
    have hm := (h2 i).2 ⟨hi, hl i hi⟩
    obtain ⟨p0, hp0, e0⟩ := Y0.1 hm
    have hf : ∃ p, bs.find? (fun p => p.1 == i) = some p := by
      cases h : bs.find? (fun p => p.1 == i) with
      | some p => exact ⟨p, rfl⟩
      | none => exact absurd (List.find?_eq_none.1 h p0 hp0) (by simp [e0])
    obtain ⟨p, hp⟩ := hf
    have hpm := List.mem_of_find?_eq_some hp
    have hpe := List.find?_some hp
    obtain ⟨k, hk⟩ := List.getElem?_of_mem hpm
    refine ⟨k, p, hk, by simpa using hpe, ?_⟩
    unfold blkOf
    rw [hp]
    rfl
  refine ⟨blkOf bs, fun i hi => ?_, ?_⟩
  · obtain ⟨k, p, hk, hp, hb⟩ := hB i hi
    obtain ⟨o, d, ho, hdd⟩ := hd i hi
    rw [hb]
    refine h3 p (List.mem_of_getElem? hk) o (dN ops i) (by rw [hp]; exact ho) ?_
    unfold dN opD
    rw [ho]
    simp [hdd]
  · have ix : ∀ (A' : List Nat), (∀ i ∈ A', i ∈ A) → A'.Nodup → ∃ ks : List Nat, (∀ k ∈ ks, ∃ p : Nat × Nat, bs[k]? = some p ∧ p.1 ∈ A') ∧ ks.Nodup ∧ (A'.map fun i => some (Ent.box (blkOf bs i) (cA i) (tA i))) = ks.map fun k => (bs.map fun p => Ent.box p.2 (cA p.1) (tA p.1))[k]? := fun A' => by
      induction A' with
      | nil => exact fun _ _ => ⟨[], by simp, XK, rfl⟩
      | cons i r ih =>
        intro hs hn
        obtain ⟨ks, h5, h6, h7⟩ := ih (fun j hj => hs j (QN _ hj)) (JV.1 hn).2
        obtain ⟨k, p, hk, hp, hb⟩ := hB i (hs i (QX ..))
        refine ⟨k :: ks, fun j hj => ?_, JV.2 ⟨fun hm => ?_, h6⟩, ?_⟩
        · rcases QZ.1 hj with rfl | hj
          · exact ⟨p, hk, by rw [hp]; exact QX ..⟩
          · obtain ⟨q, hq, hq2⟩ := h5 j hj
            exact ⟨q, hq, QN _ hq2⟩
        · obtain ⟨q, hq, hq2⟩ := h5 k hm
          rw [hk] at hq
          cases hq
          rw [hp] at hq2
          exact (JV.1 hn).1 hq2
        · rw [QY, QY, h7, List.getElem?_map, hk]
          simp [hp, hb]
    obtain ⟨ks, h5, h6, h7⟩ := ix A (fun _ h => h) hnA
    refine h4.pick ((Ye Lh.length) ++ ks.map (Lh.length + ·)) ?_ ?_
    · rw [ZI, ZI, Xr]
      congr 1
      · refine Q9 fun j => ?_
        rcases Qe j Lh.length with h | h
        · simp [h, zW]
        · simp [h]
      · rw [Xr]
        refine Eq.trans (by rfl) (h7.trans ?_)
        refine List.map_congr_left fun k hk => ?_
        show _ = (Lh ++ bs.map fun p => Ent.box p.2 (cA p.1) (tA p.1))[Lh.length + k]?
        rw [z6 (Nat.le_add_right _ _), Nat.add_sub_cancel_left]
    · rw [Xe]
      refine ⟨List.nodup_range, ?_, fun x hx y hy e => ?_⟩
      · exact List.Pairwise.map _ (fun x y h g => h (by simpa using g)) h6
      · obtain ⟨k, _, rfl⟩ := Y0.1 hy
        have := List.mem_range.1 hx
        omega
def alcOk (P : Program) (ops : Array Oper) (n : Nat) (cA : Nat → List Value) (tA : Nat → TypeId) (i : Nat) : Prop :=
  opAt ops n i [] = some (.run (opD ops i) (nv (Instr.alloc (tA i) true (.tuple #[])))) ∧ ((fun w => (zeroValue (tA i)).run P w) = fun w => .ok (Kt P (tA i)) w) ∧ (Kt P (tA i)).cells.toList = cA i
theorem s_gen {F : Act → World → Prop} {id : Nat} (cA : Nat → List Value) (tA : Nat → TypeId) (m' : Nat) (l' : List (Nat × Value)) (E : Env a n l0) (H : Ev w0 L0 w.drew Lh) (hst : StabL P ops (HQ F) n w0 L0 Lh l0 L I) (hal : ∀ i ∈ A, alcOk P ops n cA tA i)
    (next : ∀ a' w' (B : Nat → Nat), Env a' n ((A.map fun i => (dN ops i, Value.pointer (some ⟨B i, 0, none⟩))) ++ l') → Ev w0 L0 w' (Lh ++ A.map fun i => .box (B i) (cA i) (tA i)) → wpAny P .any ops (HQ F) m' (LI ops (I ++ A)) a' w')
    (hp : P.follows .mixedOrders = true) (hB : stabB ops (I ++ A) l0 = true) (hC : alcB ops I A = true) (hl : l'.map (fun p => srcE ops I l0 L p.1) = l'.map (fun p => some p.2)) (hm : cntF (LI ops (I ++ A)) = m') : (Code.region id ops true).wp P (HQ F) a w := by
  have hB' := hB
  unfold stabB at hB'
  simp only [Za, Zq] at hB'
  have hnd := hB'.1.1.1
  have key : ∀ i ∈ I ++ A, ∃ o, ops[i]? = some o := fun i hi => by
    have h := hB'.1.1.2 i hi
    unfold inB at h
    cases ho : ops[i]? with
    | none => rw [ho] at h; cases h
    | some o => exact ⟨o, rfl⟩
  unfold alcB at hC
  simp only [Za, Zq] at hC
  have hIA : ∀ i ∈ A, i ∉ I := fun i hi h => by
    have := (hC.1.2 i hi).1
    rw [ZC.2 h] at this
    cases this
  have hAd : ∀ i ∈ A, ∃ o d, ops[i]? = some o ∧ o.dst = some d := fun i hi => by
    obtain ⟨o, ho⟩ := key i (XC _ hi)
    have h := (hC.1.2 i hi).2
    unfold opD at h
    rw [ho] at h
    cases hd : o.dst with
    | none => simp [hd] at h
    | some d => exact ⟨o, d, ho, hd⟩
  have hlist : ∀ i ∈ I ++ A, (LI ops (I ++ A)).getD i false = true := fun i hi => by
    obtain ⟨o, ho⟩ := key i hi
    have hib := (ZZ.1 ho).1
    simp only [Yi] at hi
    simp [LI, hib, hi]
  refine draw_any hp ops.size rfl ?_
  refine stab_go (J := fun listed a w => Know ops n l0 L I a listed ∧ Alc ops A cA tA w0 L0 Lh listed a w) hB (fun i hi listed a w o ho hs hiu haf hdn hJ => ?_) (fun a' w' hJ => ?_) ops.size (Array.replicate ops.size false) a w.drew (by simp [cntF, List.countP_replicate]) (by simp) (fun j hj => ?_) ?_ ⟨⟨E.size, E.defers, E.slot, fun i o d hi ho hd hl => ?_⟩, [], XK, fun i => ?_, (fun p hp => by cases hp), (by rw [KA, Zr]; exact H)⟩
  · obtain ⟨hk, hA⟩ := hJ
    rcases Yi.1 hi with hi | hi
    · obtain ⟨bs, h1, h2, h3, h4⟩ := hA
      have haf' : ∀ e ∈ o.after, Region.binds .any e = true → e.on ∈ I ∧ listed.getD e.on false = true := fun e he hb => by
        have h := hC.1.1 i hi
        rw [ho] at h
        have h1 := (Yp.1 h) e he
        rw [hb] at h1
        exact ⟨ZC.1 (by simpa using h1), (haf e he hb).2⟩
      refine wpOp_mono (fun a' w' h => ?_) (stab_step hnd hi (hst.all i hi (bs.map fun p => .box p.2 (cA p.1) (tA p.1))) ho hs hiu haf' hdn hk h4)
      obtain ⟨hk', hS', v, rfl⟩ := h
      exact ⟨hk', Alc.put hnd ho (fun h => hIA i h hi) h1 h2 h3 hS'⟩
    · obtain ⟨h1, h2, h3⟩ := hal i hi
      obtain ⟨o', d, ho', hd⟩ := hAd i hi
      exact Alc.step hnd ho hi (hIA i hi) hs hiu hdn hk hA h1 h2 h3 ⟨d, by unfold opD; rw [ho']; exact hd⟩
  · obtain ⟨hk, hA⟩ := hJ
    obtain ⟨B, hB1, hB2⟩ := Alc.order hA (nodup_of hC.2) (fun i hi => hlist i (XC _ hi)) hAd
    rw [hm]
    have E' := hk.env (fun i hi => hlist i (List.mem_append_left _ hi)) hl
    refine next a' w' B ⟨E'.size, E'.defers, fun t v hv => ?_⟩ hB2
    rcases look_alc A hv with ⟨i, hi, rfl, rfl⟩ | h
    · exact hB1 i hi
    · exact E'.slot t v h
  · rcases Qe j ops.size with h | h
    · simp [h] at hj
    · simp [h] at hj
  · intro j o hj hl
    rcases Qe j ops.size with h | h
    · simp [h] at hl
    · simp [h] at hl
  · rcases Qe i ops.size with h | h
    · simp [h] at hl
    · simp [h] at hl
  · rcases Qe i ops.size with h | h
    · simp [h]
    · simp [h]
def cAl (P : Program) (ops : Array Oper) (i : Nat) : List Value := (Kt P (YP ops i)).cells.toList
theorem s_g0 {F : Act → World → Prop} {id : Nat} (l0 : List (Nat × Value)) (I : List Nat) (L : List (Nat × Value)) (m' : Nat) (l' : List (Nat × Value)) (E : Env a n l0) (H : Ev w0 L0 w.drew Lh) (hst : StabL P ops (HQ F) n w0 L0 Lh l0 L I)
    (next : ∀ a' w', Env a' n (l') → Ev w0 L0 w' Lh → wpAny P .any ops (HQ F) m' (LI ops (I ++ [])) a' w')
    (hp : P.follows .mixedOrders = true := by kernel_rfl) (hB : stabB ops (I ++ []) l0 = true := by kernel_rfl) (hC : alcB ops I [] = true := by kernel_rfl) (hl : l'.map (fun p => srcE ops I l0 L p.1) = l'.map (fun p => some p.2) := by kernel_rfl) (hm : cntF (LI ops (I ++ [])) = m' := by kernel_rfl) : (Code.region id ops true).wp P (HQ F) a w := by
  exact s_gen (A := []) (cAl P ops) (YP ops) m' l' E H hst (fun i hi => by cases hi) (fun a' w' B E' H' => next a' w' E' (by rw [KA, Zr] at H'; exact H')) hp hB hC hl hm
theorem s_g1 {F : Act → World → Prop} {id : Nat} (l0 : List (Nat × Value)) (I : List Nat) (L : List (Nat × Value)) (m' : Nat) (l' : List (Nat × Value)) (i1 : Nat) (c1 : List Value) (E : Env a n l0) (H : Ev w0 L0 w.drew Lh) (hst : StabL P ops (HQ F) n w0 L0 Lh l0 L I)
    (next : ∀ a' w' (b1 : Nat), Env a' n ((dN ops i1, .pointer (some ⟨b1, 0, none⟩)) :: l') → Ev w0 L0 w' (Lh ++ [.box b1 c1 (YP ops i1)]) → wpAny P .any ops (HQ F) m' (LI ops (I ++ [i1])) a' w')
    (hp : P.follows .mixedOrders = true := by kernel_rfl) (hB : stabB ops (I ++ [i1]) l0 = true := by kernel_rfl) (hC : alcB ops I [i1] = true := by kernel_rfl) (hl : l'.map (fun p => srcE ops I l0 L p.1) = l'.map (fun p => some p.2) := by kernel_rfl) (hm : cntF (LI ops (I ++ [i1])) = m' := by kernel_rfl) (e1 : alcOk P ops n (cAl P ops) (YP ops) i1 := by exact ⟨by kernel_rfl, by kernel_rfl, rfl⟩) (f1 : cAl P ops i1 = c1 := by kernel_rfl) : (Code.region id ops true).wp P (HQ F) a w := by
  subst f1
  exact s_gen (A := [i1]) (cAl P ops) (YP ops) m' l' E H hst (fun i hi => by simp only [QZ, Zs, or_false] at hi; rcases hi with rfl <;> assumption) (fun a' w' B E' H' => next a' w' (B i1) E' H') hp hB hC hl hm
theorem s_g4 {F : Act → World → Prop} {id : Nat} (l0 : List (Nat × Value)) (I : List Nat) (L : List (Nat × Value)) (m' : Nat) (l' : List (Nat × Value)) (i1 i2 i3 i4 : Nat) (c1 c2 c3 c4 : List Value) (E : Env a n l0) (H : Ev w0 L0 w.drew Lh) (hst : StabL P ops (HQ F) n w0 L0 Lh l0 L I)
    (next : ∀ a' w' (b1 b2 b3 b4 : Nat), Env a' n ((dN ops i1, .pointer (some ⟨b1, 0, none⟩)) :: (dN ops i2, .pointer (some ⟨b2, 0, none⟩)) :: (dN ops i3, .pointer (some ⟨b3, 0, none⟩)) :: (dN ops i4, .pointer (some ⟨b4, 0, none⟩)) :: l') → Ev w0 L0 w' (Lh ++ [.box b1 c1 (YP ops i1), .box b2 c2 (YP ops i2), .box b3 c3 (YP ops i3), .box b4 c4 (YP ops i4)]) → wpAny P .any ops (HQ F) m' (LI ops (I ++ [i1, i2, i3, i4])) a' w')
    (hp : P.follows .mixedOrders = true := by kernel_rfl) (hB : stabB ops (I ++ [i1, i2, i3, i4]) l0 = true := by kernel_rfl) (hC : alcB ops I [i1, i2, i3, i4] = true := by kernel_rfl) (hl : l'.map (fun p => srcE ops I l0 L p.1) = l'.map (fun p => some p.2) := by kernel_rfl) (hm : cntF (LI ops (I ++ [i1, i2, i3, i4])) = m' := by kernel_rfl) (e1 : alcOk P ops n (cAl P ops) (YP ops) i1 := by exact ⟨by kernel_rfl, by kernel_rfl, rfl⟩) (f1 : cAl P ops i1 = c1 := by kernel_rfl) (e2 : alcOk P ops n (cAl P ops) (YP ops) i2 := by exact ⟨by kernel_rfl, by kernel_rfl, rfl⟩) (f2 : cAl P ops i2 = c2 := by kernel_rfl) (e3 : alcOk P ops n (cAl P ops) (YP ops) i3 := by exact ⟨by kernel_rfl, by kernel_rfl, rfl⟩) (f3 : cAl P ops i3 = c3 := by kernel_rfl) (e4 : alcOk P ops n (cAl P ops) (YP ops) i4 := by exact ⟨by kernel_rfl, by kernel_rfl, rfl⟩) (f4 : cAl P ops i4 = c4 := by kernel_rfl) : (Code.region id ops true).wp P (HQ F) a w := by
  subst f1 f2 f3 f4
  exact s_gen (A := [i1, i2, i3, i4]) (cAl P ops) (YP ops) m' l' E H hst (fun i hi => by simp only [QZ, Zs, or_false] at hi; rcases hi with rfl | rfl | rfl | rfl <;> assumption) (fun a' w' B E' H' => next a' w' (B i1) (B i2) (B i3) (B i4) E' H') hp hB hC hl hm
theorem app_at {M : List Ent} {k : Nat} {e : Ent} (h : Lh[k]? = some e) : (Lh ++ M)[k]? = some e := by rw [zW (List.getElem?_eq_some_iff.1 h).1]; exact h
theorem s_n : StabL P ops Q n w0 L0 Lh l0 L [] := trivial
theorem s_c {i : Nat} {r : List Nat} (h : ∀ M a w, Env a n (envI ops l0 L i) → Ev w0 L0 w (Lh ++ M) → wpOp P ops Q i (fun a' w' => Env a' n (oneL ops L i) ∧ Ev w0 L0 w' (Lh ++ M)) a w) (hr : StabL P ops Q n w0 L0 Lh l0 L r)
    (hE : (envI ops l0 L i).map (fun p => srcOf ops l0 L i p.1) = (envI ops l0 L i).map (fun p => some p.2) := by kernel_rfl) : StabL P ops Q n w0 L0 Lh l0 L (i :: r) := ⟨fun M => ⟨_, hE, h M⟩, hr⟩
theorem s_f {i : Nat} {r : List Nat} {f : FuncId} {args : Array Value} {v : Value} (hc : ∀ w, Calls P f args w fun e w' => e = .returned v ∧ Ev w [] w' []) (hr : StabL P ops Q n w0 L0 Lh l0 L r)
    (h : opRuns P ops n i (envI ops l0 L i) = some (opD ops i, fun w => .ok (.enter f args) w) := by kernel_rfl)
    (h1 : (oneL ops L i).map (fun p => QR (putl (opD ops i) v (envI ops l0 L i)) p.1) = (oneL ops L i).map (fun p => some p.2) := by kernel_rfl)
    (hE : (envI ops l0 L i).map (fun p => srcOf ops l0 L i p.1) = (envI ops l0 L i).map (fun p => some p.2) := by kernel_rfl) : StabL P ops Q n w0 L0 Lh l0 L (i :: r) :=
  s_c (fun M a w E H => c_p E H (hc w) (fun a' w' E' H' => ⟨E'.sub h1, H'⟩) h) hr hE
theorem s_p {i : Nat} {r : List Nat} (fs : List (Nat × FV)) (hr : StabL P ops Q n w0 L0 Lh l0 L r)
    (h : (fun w => resA P ops n w (envI ops l0 L i) i) = (fun w => expA P ops n fs w (envI ops l0 L i) i) := by kernel_rfl)
    (h1 : (oneL ops L i).map (fun p => QR (nextL P ops n fs (envI ops l0 L i) i) p.1) = (oneL ops L i).map (fun p => some p.2) := by kernel_rfl)
    (hE : (envI ops l0 L i).map (fun p => srcOf ops l0 L i p.1) = (envI ops l0 L i).map (fun p => some p.2) := by kernel_rfl) : StabL P ops Q n w0 L0 Lh l0 L (i :: r) :=
  s_c (fun M a w E H => by
    have h2 := congrFun h w
    unfold resA expA at h2
    have go : ∀ a', Env a' n (nextL P ops n fs (envI ops l0 L i) i) → Env a' n (oneL ops L i) ∧ Ev w0 L0 w (Lh ++ M) := fun a' E' => ⟨E'.sub h1, H⟩
    unfold nextL at go
    cases ho : opAt ops n i (envI ops l0 L i) with
    | none => simp [ho] at h2
    | some x =>
      cases x with
      | run d s =>
        simp only [ho, Option.some.injEq] at h2 go
        rw [raw_fin] at h2
        exact any_run E ho h2 go
      | skip d =>
        simp only [ho] at go
        obtain ⟨o, hq, hw, rfl, hf⟩ := opAt_skip E ho
        simp only [wpOp, hq, hw, Bool.false_eq_true, if_false]
        exact go _ (E.put undef hf)) hr hE
theorem s_a {i : Nat} {r : List Nat} (k off m : Nat) (xs : List Value) {b : Nat} {cs : List Value} {T : TypeId} (hk : Lh[k]? = some (.box b cs T)) (hx : (cs.drop off).take m = xs) (hm : xs.length = m) (hr : StabL P ops Q n w0 L0 Lh l0 L r)
    (h : opAt ops n i (envI ops l0 L i) = some (.run (opD ops i) (nv (Instr.loadAt (YP ops i) (.pointer (some ⟨b, off, none⟩))))) := by kernel_rfl)
    (ht : (fun w => (isAgg (YP ops i)).run P w) = fun w => .ok true w := by kernel_rfl) (hs : (fun w => (sizeOf (YP ops i)).run P w) = fun w => .ok m w := by kernel_rfl)
    (h1 : (oneL ops L i).map (fun p => QR (putl (opD ops i) (.agg xs.toArray) (envI ops l0 L i)) p.1) = (oneL ops L i).map (fun p => some p.2) := by kernel_rfl)
    (hE : (envI ops l0 L i).map (fun p => srcOf ops l0 L i p.1) = (envI ops l0 L i).map (fun p => some p.2) := by kernel_rfl) : StabL P ops Q n w0 L0 Lh l0 L (i :: r) :=
  s_c (fun M a w E H => m_a k off m xs E H (app_at hk) hx hm (fun a' E' => ⟨E'.sub h1, H⟩) h ht hs) hr hE
theorem s_e {i : Nat} {l : List (Nat × Value)} {a' : Act} {w' : World} {Lh : List Ent} (E : Env a' n l) (H : Ev w0 L0 w' Lh) (h1 : (oneL ops L i).map (fun p => QR l p.1) = (oneL ops L i).map (fun p => some p.2) := by kernel_rfl) : Env a' n (oneL ops L i) ∧ Ev w0 L0 w' Lh := ⟨E.sub h1, H⟩
end
end Go.Dbr

namespace Go.Proofs.YtlnogkmnklfjlaaGreatDoor
open Go.Dbr
set_option maxRecDepth 100000
set_option maxHeartbeats 2000000
set_option linter.unusedVariables false
set_option linter.unusedSimpArgs false
theorem hL1 : LeftOk 1 := leftOk3 (by decide)
theorem hR1 : RMulOk 1 := rmulOk h1f hL1
theorem nv_m1 (x y : Nat) : nv (nd (zr 1 x y)) = zr 1 x y := Qw (mulM_lt h1f x y)
theorem nv_a1 (x y : Nat) : nv (nd (Zh 1 x y)) = Zh 1 x y := Qw (addM_lt h1f x y)
theorem nv_s1 (x y : Nat) : nv (nd (z7 1 x y)) = z7 1 x y := Qw (subM_lt h1f x y)
theorem nv_d2 : nv (nd D2N) = D2N := Qw (by decide)
theorem nv_dn : nv (nd DN) = DN := Qw (by decide)
theorem nv_iv (x : Nat) : nv (nd (zJ 1 x (mF 1 - 2))) = ivE x := Qw (powM_lt h1f x _)
theorem cut16 (p : L4) : zh (p.take 4) ++ (zh ((p.drop 4).take 4) ++ (zh ((p.drop 8).take 4) ++ zh (p.drop 12))) = zh p := by
  unfold zh
  rw [← ZI, ← ZI, ← ZI]
  congr 1
  have h : p.drop 8 = (p.drop 4).drop 4 := by rw [Qy]
  have h2 : p.drop 12 = (p.drop 8).drop 4 := by rw [Qy]
  rw [h2, Qv, h, Qv, Qv]
theorem cat16 (a b c d : L4) : zh a ++ (zh b ++ (zh c ++ zh d)) = zh (a ++ (b ++ (c ++ d))) := by
  unfold zh
  rw [ZI, ZI, ZI]
theorem ret4 {x y z t x' y' z' t' : List UInt64} (h1 : x = x') (h2 : y = y') (h3 : z = z') (h4 : t = t') : Ending.returned (.agg (zg ((zh x) ++ ((zh y) ++ ((zh z) ++ (zh t)))))) = Ending.returned (.agg (zg ((zh x') ++ ((zh y') ++ ((zh z') ++ (zh t')))))) := by rw [h1, h2, h3, h4]
theorem emul_go (w : World) (a b : List UInt64) (ha : zb a = 4) (hb : zb b = 4) : Calls Tryz.prog 43 #[.agg (zg (zh a)), .agg (zg (zh b))] w fun e w' => e = .returned (.agg (zg (zh (nd (zr 1 (nv a) (nv b)))))) ∧ Ev w [] w' [] := by
 refine d_0 [(0, .agg (zg (zh a))), (1, .agg (zg (zh b)))] 8 Go.Proofs.Tryz.func43 Go.Proofs.Tryz.ntmps43 (Heap.nil _) fun Ek El Em => wp_seq <| zk <| f_o <| m_m 33 (zh a) El Em fun _ _ Eq En Eo => f_o <| m_m 33 (zh b) En Eo fun _ _ Er Ep Ec => f_o <| m_z 33 (zh (zd 4 0)) Ep Ec fun _ _ Ed Ee Ea => ?_
 refine f_e <| ze <| wp_seq <| zk <| f_o <| Zp 0 4 (zh a) Ee Ea rfl (zf ha) fun _ Ef => f_o <| Zp 1 4 (zh b) Ef Ea rfl (zf hb) fun _ Eg => f_o <| c_p Eg Ea (hM1 _ a b ha hb) fun _ _ Eh Ei => f_o <| zQ 2 4 (zh (nd (zr 1 (nv a) (nv b)))) _ Eh Ei rfl (zf (zl _ _)) (zf (zi)) (zt _) rfl fun _ _ Ej Eb => ?_
 refine f_e <| ze <| wp_ret <| z9 (v := .agg (zg (zh (nd (zr 1 (nv a) (nv b)))))) (t := 4) (T := 33) (ad := ⟨Ed, 0, none⟩) Ej (by kernel_rfl) (by kernel_rfl) (zB (t := 33) (k := 2) (off := 0) (m := 4) (xs := zh (nd (zr 1 (nv a) (nv b)))) Eb rfl (zq (zf (zl _ _))) (zf (zl _ _)) (by kernel_rfl) (by kernel_rfl)) ?_
 exact ⟨rfl, Eb.pk []⟩
theorem esum_go (w : World) (a b : List UInt64) (ha : zb a = 4) (hb : zb b = 4) : Calls Tryz.prog 69 #[.agg (zg (zh a)), .agg (zg (zh b))] w fun e w' => e = .returned (.agg (zg (zh (nd (Zh 1 (nv a) (nv b)))))) ∧ Ev w [] w' [] := by
 refine d_0 [(0, .agg (zg (zh a))), (1, .agg (zg (zh b)))] 8 Go.Proofs.Tryz.func69 Go.Proofs.Tryz.ntmps69 (Heap.nil _) fun Ek El Em => wp_seq <| zk <| f_o <| m_m 33 (zh a) El Em fun _ _ Eq En Eo => f_o <| m_m 33 (zh b) En Eo fun _ _ Er Ep Ec => f_o <| m_z 33 (zh (zd 4 0)) Ep Ec fun _ _ Ed Ee Ea => ?_
 refine f_e <| ze <| wp_seq <| zk <| f_o <| Zp 0 4 (zh a) Ee Ea rfl (zf ha) fun _ Ef => f_o <| Zp 1 4 (zh b) Ef Ea rfl (zf hb) fun _ Eg => f_o <| c_p Eg Ea (add_go _ 1 h1f a b ha hb) fun _ _ Eh Ei => f_o <| zQ 2 4 (zh (nd (Zh 1 (nv a) (nv b)))) _ Eh Ei rfl (zf (zl _ _)) (zf (zi)) (zt _) rfl fun _ _ Ej Eb => ?_
 refine f_e <| ze <| wp_ret <| z9 (v := .agg (zg (zh (nd (Zh 1 (nv a) (nv b)))))) (t := 4) (T := 33) (ad := ⟨Ed, 0, none⟩) Ej (by kernel_rfl) (by kernel_rfl) (zB (t := 33) (k := 2) (off := 0) (m := 4) (xs := zh (nd (Zh 1 (nv a) (nv b)))) Eb rfl (zq (zf (zl _ _))) (zf (zl _ _)) (by kernel_rfl) (by kernel_rfl)) ?_
 exact ⟨rfl, Eb.pk []⟩
theorem edif_go (w : World) (a b : List UInt64) (ha : zb a = 4) (hb : zb b = 4) : Calls Tryz.prog 68 #[.agg (zg (zh a)), .agg (zg (zh b))] w fun e w' => e = .returned (.agg (zg (zh (nd (z7 1 (nv a) (nv b)))))) ∧ Ev w [] w' [] := by
 refine d_0 [(0, .agg (zg (zh a))), (1, .agg (zg (zh b)))] 8 Go.Proofs.Tryz.func68 Go.Proofs.Tryz.ntmps68 (Heap.nil _) fun Ek El Em => wp_seq <| zk <| f_o <| m_m 33 (zh a) El Em fun _ _ Eq En Eo => f_o <| m_m 33 (zh b) En Eo fun _ _ Er Ep Ec => f_o <| m_z 33 (zh (zd 4 0)) Ep Ec fun _ _ Ed Ee Ea => ?_
 refine f_e <| ze <| wp_seq <| zk <| f_o <| Zp 0 4 (zh a) Ee Ea rfl (zf ha) fun _ Ef => f_o <| Zp 1 4 (zh b) Ef Ea rfl (zf hb) fun _ Eg => f_o <| c_p Eg Ea (sub_go _ 1 h1f a b ha hb) fun _ _ Eh Ei => f_o <| zQ 2 4 (zh (nd (z7 1 (nv a) (nv b)))) _ Eh Ei rfl (zf (zl _ _)) (zf (zi)) (zt _) rfl fun _ _ Ej Eb => ?_
 refine f_e <| ze <| wp_ret <| z9 (v := .agg (zg (zh (nd (z7 1 (nv a) (nv b)))))) (t := 4) (T := 33) (ad := ⟨Ed, 0, none⟩) Ej (by kernel_rfl) (by kernel_rfl) (zB (t := 33) (k := 2) (off := 0) (m := 4) (xs := zh (nd (z7 1 (nv a) (nv b)))) Eb rfl (zq (zf (zl _ _))) (zf (zl _ _)) (by kernel_rfl) (by kernel_rfl)) ?_
 exact ⟨rfl, Eb.pk []⟩
theorem dmul_go (w : World) (a b : List UInt64) (ha : zb a = 4) (hb : zb b = 4) : Calls Tryz.prog 44 #[.agg (zg (zh a)), .agg (zg (zh b))] w fun e w' => e = .returned (.agg (zg (zh (nd (zr 1 (nv a) (nv b)))))) ∧ Ev w [] w' [] := by
 refine d_0 [(0, .agg (zg (zh a))), (1, .agg (zg (zh b)))] 8 Go.Proofs.Tryz.func44 Go.Proofs.Tryz.ntmps44 (Heap.nil _) fun Ek El Em => wp_seq <| zk <| f_o <| m_m 33 (zh a) El Em fun _ _ Eq En Eo => f_o <| m_m 33 (zh b) En Eo fun _ _ Er Ep Ec => f_o <| m_z 33 (zh (zd 4 0)) Ep Ec fun _ _ Ed Ee Ea => ?_
 refine f_e <| ze <| wp_seq <| zk <| f_o <| Zp 0 4 (zh a) Ee Ea rfl (zf ha) fun _ Ef => f_o <| Zp 1 4 (zh b) Ef Ea rfl (zf hb) fun _ Eg => f_o <| c_p Eg Ea (hR1 _ a b ha hb) fun _ _ Eh Ei => f_o <| zQ 2 4 (zh (nd (zr 1 (nv a) (nv b)))) _ Eh Ei rfl (zf (zl _ _)) (zf (zi)) (zt _) rfl fun _ _ Ej Eb => ?_
 refine f_e <| ze <| wp_ret <| z9 (v := .agg (zg (zh (nd (zr 1 (nv a) (nv b)))))) (t := 4) (T := 33) (ad := ⟨Ed, 0, none⟩) Ej (by kernel_rfl) (by kernel_rfl) (zB (t := 33) (k := 2) (off := 0) (m := 4) (xs := zh (nd (zr 1 (nv a) (nv b)))) Eb rfl (zq (zf (zl _ _))) (zf (zl _ _)) (by kernel_rfl) (by kernel_rfl)) ?_
 exact ⟨rfl, Eb.pk []⟩
theorem dadd_go (w : World) (a b : List UInt64) (ha : zb a = 4) (hb : zb b = 4) : Calls Tryz.prog 71 #[.agg (zg (zh a)), .agg (zg (zh b))] w fun e w' => e = .returned (.agg (zg (zh (nd (Zh 1 (nv a) (nv b)))))) ∧ Ev w [] w' [] := by
 refine d_0 [(0, .agg (zg (zh a))), (1, .agg (zg (zh b)))] 8 Go.Proofs.Tryz.func71 Go.Proofs.Tryz.ntmps71 (Heap.nil _) fun Ek El Em => wp_seq <| zk <| f_o <| m_m 33 (zh a) El Em fun _ _ Eq En Eo => f_o <| m_m 33 (zh b) En Eo fun _ _ Er Ep Ec => f_o <| m_z 33 (zh (zd 4 0)) Ep Ec fun _ _ Ed Ee Ea => ?_
 refine f_e <| ze <| wp_seq <| zk <| f_o <| Zp 0 4 (zh a) Ee Ea rfl (zf ha) fun _ Ef => f_o <| Zp 1 4 (zh b) Ef Ea rfl (zf hb) fun _ Eg => f_o <| c_p Eg Ea (radd_go _ 1 h1f hL1 a b ha hb) fun _ _ Eh Ei => f_o <| zQ 2 4 (zh (nd (Zh 1 (nv a) (nv b)))) _ Eh Ei rfl (zf (zl _ _)) (zf (zi)) (zt _) rfl fun _ _ Ej Eb => ?_
 refine f_e <| ze <| wp_ret <| z9 (v := .agg (zg (zh (nd (Zh 1 (nv a) (nv b)))))) (t := 4) (T := 33) (ad := ⟨Ed, 0, none⟩) Ej (by kernel_rfl) (by kernel_rfl) (zB (t := 33) (k := 2) (off := 0) (m := 4) (xs := zh (nd (Zh 1 (nv a) (nv b)))) Eb rfl (zq (zf (zl _ _))) (zf (zl _ _)) (by kernel_rfl) (by kernel_rfl)) ?_
 exact ⟨rfl, Eb.pk []⟩
theorem dsub_go (w : World) (a b : List UInt64) (ha : zb a = 4) (hb : zb b = 4) : Calls Tryz.prog 45 #[.agg (zg (zh a)), .agg (zg (zh b))] w fun e w' => e = .returned (.agg (zg (zh (nd (z7 1 (nv a) (nv b)))))) ∧ Ev w [] w' [] := by
 refine d_0 [(0, .agg (zg (zh a))), (1, .agg (zg (zh b)))] 8 Go.Proofs.Tryz.func45 Go.Proofs.Tryz.ntmps45 (Heap.nil _) fun Ek El Em => wp_seq <| zk <| f_o <| m_m 33 (zh a) El Em fun _ _ Eq En Eo => f_o <| m_m 33 (zh b) En Eo fun _ _ Er Ep Ec => f_o <| m_z 33 (zh (zd 4 0)) Ep Ec fun _ _ Ed Ee Ea => ?_
 refine f_e <| ze <| wp_seq <| zk <| f_o <| Zp 0 4 (zh a) Ee Ea rfl (zf ha) fun _ Ef => f_o <| Zp 1 4 (zh b) Ef Ea rfl (zf hb) fun _ Eg => f_o <| c_p Eg Ea (rsub_go _ 1 h1f hL1 a b ha hb) fun _ _ Eh Ei => f_o <| zQ 2 4 (zh (nd (z7 1 (nv a) (nv b)))) _ Eh Ei rfl (zf (zl _ _)) (zf (zi)) (zt _) rfl fun _ _ Ej Eb => ?_
 refine f_e <| ze <| wp_ret <| z9 (v := .agg (zg (zh (nd (z7 1 (nv a) (nv b)))))) (t := 4) (T := 33) (ad := ⟨Ed, 0, none⟩) Ej (by kernel_rfl) (by kernel_rfl) (zB (t := 33) (k := 2) (off := 0) (m := 4) (xs := zh (nd (z7 1 (nv a) (nv b)))) Eb rfl (zq (zf (zl _ _))) (zf (zl _ _)) (by kernel_rfl) (by kernel_rfl)) ?_
 exact ⟨rfl, Eb.pk []⟩
theorem twiceD_go (w : World) : Calls Tryz.prog 66 #[] w fun e w' => e = .returned (.agg (zg (zh (nd D2N)))) ∧ Ev w [] w' [] := by
 refine d_0 [] 2 Go.Proofs.Tryz.func66 Go.Proofs.Tryz.ntmps66 (Heap.nil _) fun Ec Ed Ee => wp_seq <| zk <| f_o <| m_z 33 (zh (zd 4 0)) Ed Ee fun _ _ Ef Eg Eh => f_e <| ze <| wp_seq <| zk <| d_k [0,1] [] 1 Eg fun _ Ei => f_o <| zQ 0 4 (zh ([16993941304535871833, 63073048630374742, 1841551078520508720, 2596001775599221991] : List UInt64)) _ Ei Eh rfl (zf (show zb ([16993941304535871833, 63073048630374742, 1841551078520508720, 2596001775599221991] : List UInt64) = 4 from rfl)) (zf (zi)) (zt _) rfl fun _ _ Eb Ea => ?_
 refine f_e <| ze <| wp_ret <| z9 (v := .agg (zg (zh ([16993941304535871833, 63073048630374742, 1841551078520508720, 2596001775599221991] : List UInt64)))) (t := 0) (T := 33) (ad := ⟨Ef, 0, none⟩) Eb (by kernel_rfl) (by kernel_rfl) (zB (t := 33) (k := 0) (off := 0) (m := 4) (xs := zh ([16993941304535871833, 63073048630374742, 1841551078520508720, 2596001775599221991] : List UInt64)) Ea rfl (zq (zf (show zb ([16993941304535871833, 63073048630374742, 1841551078520508720, 2596001775599221991] : List UInt64) = 4 from rfl))) (zf (show zb ([16993941304535871833, 63073048630374742, 1841551078520508720, 2596001775599221991] : List UInt64) = 4 from rfl)) (by kernel_rfl) (by kernel_rfl)) ?_
 exact ⟨by kernel_rfl, Ea.pk []⟩
theorem nothing_go (w : World) : Calls Tryz.prog 41 #[] w fun e w' => e = .returned (.agg (zg (zh Xv))) ∧ Ev w [] w' [] := by
 refine d_0 [] 4 Go.Proofs.Tryz.func41 Go.Proofs.Tryz.ntmps41 (Heap.nil _) fun Ec Ed Ee => wp_seq <| zk <| f_o <| m_z 37 ((zh (zd 4 0)) ++ ((zh (zd 4 0)) ++ ((zh (zd 4 0)) ++ (zh (zd 4 0))))) Ed Ee fun _ _ Ef Eg Eh => f_e <| ze <| wp_seq <| zk <| d_k [0,3] [] 3 Eg fun _ Ei => f_o <| zQ 0 16 ((zh (zd 4 0)) ++ ((zh ([1, 0, 0, 0] : List UInt64)) ++ ((zh ([1, 0, 0, 0] : List UInt64)) ++ (zh (zd 4 0))))) _ Ei Eh rfl (zE (zf (zi)) (zE (zf (show zb ([1, 0, 0, 0] : List UInt64) = 4 from rfl)) (zE (zf (show zb ([1, 0, 0, 0] : List UInt64) = 4 from rfl)) (zf (zi))))) (zE (zf (zi)) (zE (zf (zi)) (zE (zf (zi)) (zf (zi))))) (QB (zt _) (QB (zt _) (QB (zt _) (zt _)))) rfl fun _ _ Eb Ea => ?_
 refine f_e <| ze <| wp_ret <| z9 (v := .agg (zg ((zh (zd 4 0)) ++ ((zh ([1, 0, 0, 0] : List UInt64)) ++ ((zh ([1, 0, 0, 0] : List UInt64)) ++ (zh (zd 4 0))))))) (t := 0) (T := 37) (ad := ⟨Ef, 0, none⟩) Eb (by kernel_rfl) (by kernel_rfl) (zB (t := 37) (k := 0) (off := 0) (m := 16) (xs := (zh (zd 4 0)) ++ ((zh ([1, 0, 0, 0] : List UInt64)) ++ ((zh ([1, 0, 0, 0] : List UInt64)) ++ (zh (zd 4 0))))) Ea rfl (zq (zE (zf (zi)) (zE (zf (show zb ([1, 0, 0, 0] : List UInt64) = 4 from rfl)) (zE (zf (show zb ([1, 0, 0, 0] : List UInt64) = 4 from rfl)) (zf (zi)))))) (zE (zf (zi)) (zE (zf (show zb ([1, 0, 0, 0] : List UInt64) = 4 from rfl)) (zE (zf (show zb ([1, 0, 0, 0] : List UInt64) = 4 from rfl)) (zf (zi))))) (by kernel_rfl) (by kernel_rfl)) ?_
 exact ⟨by first | rfl | kernel_rfl, Ea.pk []⟩
theorem with_go (w : World) (x1 y1 z1 t1 x2 y2 z2 t2 : List UInt64) (hx1 : zb x1 = 4) (hy1 : zb y1 = 4) (Eq : zb z1 = 4) (ht1 : zb t1 = 4) (hx2 : zb x2 = 4) (hy2 : zb y2 = 4) (Er : zb z2 = 4) (ht2 : zb t2 = 4) : Calls Tryz.prog 33 #[.agg (zg ((zh x1) ++ ((zh y1) ++ ((zh z1) ++ (zh t1))))), .agg (zg ((zh x2) ++ ((zh y2) ++ ((zh z2) ++ (zh t2)))))] w fun e w' => e = .returned (.agg (zg ((zh (nd (zr 1 (oE (nv x1) (nv y1) (nv x2) (nv y2)) (oF (nv z1) (nv t1) (nv z2) (nv t2))))) ++ ((zh (nd (zr 1 (oG (nv z1) (nv t1) (nv z2) (nv t2)) (oH (nv x1) (nv y1) (nv x2) (nv y2))))) ++ ((zh (nd (zr 1 (oF (nv z1) (nv t1) (nv z2) (nv t2)) (oG (nv z1) (nv t1) (nv z2) (nv t2))))) ++ (zh (nd (zr 1 (oE (nv x1) (nv y1) (nv x2) (nv y2)) (oH (nv x1) (nv y1) (nv x2) (nv y2)))))))))) ∧ Ev w [] w' [] := by
 refine d_0 [(0, .agg (zg ((zh x1) ++ ((zh y1) ++ ((zh z1) ++ (zh t1)))))), (1, .agg (zg ((zh x2) ++ ((zh y2) ++ ((zh z2) ++ (zh t2))))))] 75 Go.Proofs.Tryz.func33 Go.Proofs.Tryz.ntmps33 (Heap.nil _) fun Hp Hq Hr => wp_seq <| zk <| f_o <| m_m 37 ((zh x1) ++ ((zh y1) ++ ((zh z1) ++ (zh t1)))) Hq Hr fun _ _ Ej Hs Ht => f_o <| m_m 37 ((zh x2) ++ ((zh y2) ++ ((zh z2) ++ (zh t2)))) Hs Ht fun _ _ Ek Hu Hi => f_o <| m_z 37 ((zh (zd 4 0)) ++ ((zh (zd 4 0)) ++ ((zh (zd 4 0)) ++ (zh (zd 4 0))))) Hu Hi fun _ _ Eb Hj Eu => ?_
 refine f_e <| ze <| wp_seq <| r_c (fun ac wo => ∃ (Ec : Nat), Env ac 75 [(2, pt Ej), (3, pt Ek), (4, pt Eb), (5, pt Ec)] ∧ Ev w [] wo [.box Ej ((zh x1) ++ ((zh y1) ++ ((zh z1) ++ (zh t1)))) 37, .box Ek ((zh x2) ++ ((zh y2) ++ ((zh z2) ++ (zh t2)))) 37, .box Eb ((zh (zd 4 0)) ++ ((zh (zd 4 0)) ++ ((zh (zd 4 0)) ++ (zh (zd 4 0))))) 37, .box Ec (zh (nd (zr 1 (nv (nd (z7 1 (nv y1) (nv x1)))) (nv (nd (z7 1 (nv y2) (nv x2))))))) 33]) ?_ ?_
 ·
  refine s_g1 [(2, pt Ej), (3, pt Ek), (4, pt Eb)] [0,1,2,3,4,5,6,7,8,9,10] [(13, .pointer (some ⟨Ej, 4, none⟩)), (14, .agg (zg (zh y1))), (15, pt Ej), (16, .agg (zg (zh x1))), (17, .agg (zg (zh (nd (z7 1 (nv y1) (nv x1)))))), (18, .pointer (some ⟨Ek, 4, none⟩)), (19, .agg (zg (zh y2))), (20, pt Ek), (21, .agg (zg (zh x2))), (22, .agg (zg (zh (nd (z7 1 (nv y2) (nv x2)))))), (23, .agg (zg (zh (nd (zr 1 (nv (nd (z7 1 (nv y1) (nv x1)))) (nv (nd (z7 1 (nv y2) (nv x2)))))))))] 1 [(2, pt Ej), (3, pt Ek), (4, pt Eb), (23, .agg (zg (zh (nd (zr 1 (nv (nd (z7 1 (nv y1) (nv x1)))) (nv (nd (z7 1 (nv y2) (nv x2)))))))))] 11 (zh (zd 4 0)) (Hj.sb) (Eu.trans (zO Eu.heap)) ?_ fun _ _ Ec Hk Hl => ?_
  ·
   refine s_p [] ?_
   refine s_a 0 4 4 (zh y1) rfl (by simp [zf hx1, zf hy1, zf Eq, zf ht1, z4, z5]) (zf hy1) ?_
   refine s_p [] ?_
   refine s_a 0 0 4 (zh x1) rfl (by simp [zf hx1, zf hy1, zf Eq, zf ht1, z4, z5]) (zf hx1) ?_
   refine s_f (fun _ => edif_go _ y1 x1 hy1 hx1) ?_
   refine s_p [] ?_
   refine s_a 1 4 4 (zh y2) rfl (by simp [zf hx2, zf hy2, zf Er, zf ht2, z4, z5]) (zf hy2) ?_
   refine s_p [] ?_
   refine s_a 1 0 4 (zh x2) rfl (by simp [zf hx2, zf hy2, zf Er, zf ht2, z4, z5]) (zf hx2) ?_
   refine s_f (fun _ => edif_go _ y2 x2 hy2 hx2) ?_
   refine s_f (fun _ => emul_go _ (nd (z7 1 (nv y1) (nv x1))) (nd (z7 1 (nv y2) (nv x2))) (zl _ _) (zl _ _)) ?_
   exact s_n
  refine q_u 12 ?_
  refine zQ 3 4 (zh (nd (zr 1 (nv (nd (z7 1 (nv y1) (nv x1)))) (nv (nd (z7 1 (nv y2) (nv x2))))))) _ Hk Hl rfl (zf (zl _ _)) (zf (zi)) (zt _) rfl fun _ _ Hm Hn => ?_
  exact a_e ⟨Ec, Hm.sb, Hn.pk [0, 1, 2, 3]⟩
 rintro _ _ ⟨Ec, Ho, Et⟩
 obtain ⟨qa, h_qa⟩ : ∃ q : List UInt64, q = nd (zr 1 (nv (nd (z7 1 (nv y1) (nv x1)))) (nv (nd (z7 1 (nv y2) (nv x2))))) := ⟨_, rfl⟩
 rw [← h_qa] at Et
 have n_qa : zb qa = 4 := by rw [h_qa]; exact zl _ _
 refine ze <| wp_seq <| r_c (fun ac wo => ∃ (Ea : Nat), Env ac 75 [(2, pt Ej), (3, pt Ek), (4, pt Eb), (5, pt Ec), (6, pt Ea)] ∧ Ev w [] wo [.box Ej ((zh x1) ++ ((zh y1) ++ ((zh z1) ++ (zh t1)))) 37, .box Ek ((zh x2) ++ ((zh y2) ++ ((zh z2) ++ (zh t2)))) 37, .box Eb ((zh (zd 4 0)) ++ ((zh (zd 4 0)) ++ ((zh (zd 4 0)) ++ (zh (zd 4 0))))) 37, .box Ec (zh qa) 33, .box Ea (zh (nd (zr 1 (nv (nd (Zh 1 (nv y1) (nv x1)))) (nv (nd (Zh 1 (nv y2) (nv x2))))))) 33]) ?_ ?_
 ·
  refine s_g1 [(2, pt Ej), (3, pt Ek), (4, pt Eb), (5, pt Ec)] [0,1,2,3,4,5,6,7,8,9,10] [(24, .pointer (some ⟨Ej, 4, none⟩)), (25, .agg (zg (zh y1))), (26, pt Ej), (27, .agg (zg (zh x1))), (28, .agg (zg (zh (nd (Zh 1 (nv y1) (nv x1)))))), (29, .pointer (some ⟨Ek, 4, none⟩)), (30, .agg (zg (zh y2))), (31, pt Ek), (32, .agg (zg (zh x2))), (33, .agg (zg (zh (nd (Zh 1 (nv y2) (nv x2)))))), (34, .agg (zg (zh (nd (zr 1 (nv (nd (Zh 1 (nv y1) (nv x1)))) (nv (nd (Zh 1 (nv y2) (nv x2)))))))))] 1 [(2, pt Ej), (3, pt Ek), (4, pt Eb), (5, pt Ec), (34, .agg (zg (zh (nd (zr 1 (nv (nd (Zh 1 (nv y1) (nv x1)))) (nv (nd (Zh 1 (nv y2) (nv x2)))))))))] 11 (zh (zd 4 0)) (Ho.sb) (Et.trans (zO Et.heap)) ?_ fun _ _ Ea Ew Ex => ?_
  ·
   refine s_p [] ?_
   refine s_a 0 4 4 (zh y1) rfl (by simp [zf hx1, zf hy1, zf Eq, zf ht1, z4, z5]) (zf hy1) ?_
   refine s_p [] ?_
   refine s_a 0 0 4 (zh x1) rfl (by simp [zf hx1, zf hy1, zf Eq, zf ht1, z4, z5]) (zf hx1) ?_
   refine s_f (fun _ => esum_go _ y1 x1 hy1 hx1) ?_
   refine s_p [] ?_
   refine s_a 1 4 4 (zh y2) rfl (by simp [zf hx2, zf hy2, zf Er, zf ht2, z4, z5]) (zf hy2) ?_
   refine s_p [] ?_
   refine s_a 1 0 4 (zh x2) rfl (by simp [zf hx2, zf hy2, zf Er, zf ht2, z4, z5]) (zf hx2) ?_
   refine s_f (fun _ => esum_go _ y2 x2 hy2 hx2) ?_
   refine s_f (fun _ => emul_go _ (nd (Zh 1 (nv y1) (nv x1))) (nd (Zh 1 (nv y2) (nv x2))) (zl _ _) (zl _ _)) ?_
   exact s_n
  refine q_u 12 ?_
  refine zQ 4 4 (zh (nd (zr 1 (nv (nd (Zh 1 (nv y1) (nv x1)))) (nv (nd (Zh 1 (nv y2) (nv x2))))))) [.box Ej ((zh x1) ++ ((zh y1) ++ ((zh z1) ++ (zh t1)))) 37, .box Ek ((zh x2) ++ ((zh y2) ++ ((zh z2) ++ (zh t2)))) 37, .box Eb ((zh (zd 4 0)) ++ ((zh (zd 4 0)) ++ ((zh (zd 4 0)) ++ (zh (zd 4 0))))) 37, .box Ec (zh qa) 33, .box Ea (zh (nd (zr 1 (nv (nd (Zh 1 (nv y1) (nv x1)))) (nv (nd (Zh 1 (nv y2) (nv x2))))))) 33] Ew Ex rfl (zf (zl _ _)) (zf (zi)) (zt _) rfl fun _ _ Ey Ez => ?_
  exact a_e ⟨Ea, Ey.sb, Ez.pk [0, 1, 2, 3, 4]⟩
 rintro _ _ ⟨Ea, EA, Em⟩
 obtain ⟨qb, h_qb⟩ : ∃ q : List UInt64, q = nd (zr 1 (nv (nd (Zh 1 (nv y1) (nv x1)))) (nv (nd (Zh 1 (nv y2) (nv x2))))) := ⟨_, rfl⟩
 rw [← h_qb] at Em
 have n_qb : zb qb = 4 := by rw [h_qb]; exact zl _ _
 refine ze <| wp_seq <| zk <| d_k [2,3,4,5,6,35] [] 1 EA fun _ EB => f_o <| m_a 0 12 4 (zh t1) EB Em rfl (by simp [zf hx1, zf hy1, zf Eq, zf ht1, z4, z5, Zt, Xw]) (zf ht1) fun _ EC => d_k [2,3,4,5,6,36,37] [] 3 EC fun _ ED => f_o <| m_a 1 12 4 (zh t2) ED Em rfl (by simp [zf hx2, zf hy2, zf Er, zf ht2, z4, z5, Zt, Xw]) (zf ht2) fun _ EE => ?_
 refine f_o <| c_p EE Em (emul_go _ t1 t2 ht1 ht2) fun _ _ EF EG => f_o <| c_p EF EG (twiceD_go _) fun _ _ EH EI => f_o <| c_p EH EI (emul_go _ (nd (zr 1 (nv t1) (nv t2))) (nd D2N) (zl _ _) (zl _ _)) fun _ _ EJ EK => f_o <| m_z 33 (zh (zd 4 0)) EJ EK fun _ _ Ed EL EM => ?_
 refine f_o <| zQ 5 4 (zh (nd (zr 1 (nv (nd (zr 1 (nv t1) (nv t2)))) (nv (nd D2N))))) _ EL EM rfl (zf (zl _ _)) (zf (zi)) (zt _) rfl fun _ _ EN En => f_e ?_
 obtain ⟨qc, h_qc⟩ : ∃ q : List UInt64, q = nd (zr 1 (nv (nd (zr 1 (nv t1) (nv t2)))) (nv (nd D2N))) := ⟨_, rfl⟩
 rw [← h_qc] at En
 have n_qc : zb qc = 4 := by rw [h_qc]; exact zl _ _
 refine ze <| wp_seq <| zk <| d_k [2,3,4,5,6,7,42] [] 1 EN fun _ EO => f_o <| m_a 0 8 4 (zh z1) EO En rfl (by simp [zf hx1, zf hy1, zf Eq, zf ht1, z4, z5]) (zf Eq) fun _ EP => d_k [2,3,4,5,6,7,43,44] [] 3 EP fun _ EQ => f_o <| m_a 1 8 4 (zh z2) EQ En rfl (by simp [zf hx2, zf hy2, zf Er, zf ht2, z4, z5]) (zf Er) fun _ ER => ?_
 refine f_o <| c_p ER En (emul_go _ z1 z2 Eq Er) fun _ _ ES ET => f_o <| m_z 33 (zh (zd 4 0)) ES ET fun _ _ Ee EU EV => f_o <| zQ 6 4 (zh (nd (zr 1 (nv z1) (nv z2)))) [.box Ej ((zh x1) ++ ((zh y1) ++ ((zh z1) ++ (zh t1)))) 37, .box Ek ((zh x2) ++ ((zh y2) ++ ((zh z2) ++ (zh t2)))) 37, .box Eb ((zh (zd 4 0)) ++ ((zh (zd 4 0)) ++ ((zh (zd 4 0)) ++ (zh (zd 4 0))))) 37, .box Ec (zh qa) 33, .box Ea (zh qb) 33, .box Ed (zh qc) 33, .box Ee (zh (nd (zr 1 (nv z1) (nv z2)))) 33] EU EV rfl (zf (zl _ _)) (zf (zi)) (zt _) rfl fun _ _ EW Eo => f_e <| ze <| wp_seq <| zk <| f_o <| Zp 6 4 (zh (nd (zr 1 (nv z1) (nv z2)))) EW Eo rfl (zf (zl _ _)) fun _ EX => ?_
 refine f_o <| Zp 6 4 (zh (nd (zr 1 (nv z1) (nv z2)))) EX Eo rfl (zf (zl _ _)) fun _ EY => f_o <| c_p EY Eo (esum_go _ (nd (zr 1 (nv z1) (nv z2))) (nd (zr 1 (nv z1) (nv z2))) (zl _ _) (zl _ _)) fun _ _ EZ E0 => f_o <| zQ 6 4 (zh (nd (Zh 1 (nv (nd (zr 1 (nv z1) (nv z2)))) (nv (nd (zr 1 (nv z1) (nv z2))))))) _ EZ E0 rfl (zf (zl _ _)) (zf (zl _ _)) (zt _) rfl fun _ _ E1 Ep => f_e ?_
 obtain ⟨qd, h_qd⟩ : ∃ q : List UInt64, q = nd (Zh 1 (nv (nd (zr 1 (nv z1) (nv z2)))) (nv (nd (zr 1 (nv z1) (nv z2))))) := ⟨_, rfl⟩
 rw [← h_qd] at Ep
 have n_qd : zb qd = 4 := by rw [h_qd]; exact zl _ _
 refine ze <| wp_seq <| r_c (fun ac wo => ∃ (Ef : Nat) (Eg : Nat) (Eh : Nat) (Ei : Nat), Env ac 75 [(2, pt Ej), (3, pt Ek), (4, pt Eb), (5, pt Ec), (6, pt Ea), (7, pt Ed), (8, pt Ee), (9, pt Ef), (10, pt Eg), (11, pt Eh), (12, pt Ei)] ∧ Ev w [] wo [.box Ej ((zh x1) ++ ((zh y1) ++ ((zh z1) ++ (zh t1)))) 37, .box Ek ((zh x2) ++ ((zh y2) ++ ((zh z2) ++ (zh t2)))) 37, .box Eb ((zh (zd 4 0)) ++ ((zh (zd 4 0)) ++ ((zh (zd 4 0)) ++ (zh (zd 4 0))))) 37, .box Ec (zh qa) 33, .box Ea (zh qb) 33, .box Ed (zh qc) 33, .box Ee (zh qd) 33, .box Ef (zh (nd (z7 1 (nv qb) (nv qa)))) 33, .box Eg (zh (nd (z7 1 (nv qd) (nv qc)))) 33, .box Eh (zh (nd (Zh 1 (nv qd) (nv qc)))) 33, .box Ei (zh (nd (Zh 1 (nv qb) (nv qa)))) 33]) ?_ ?_
 ·
  refine s_g4 [(2, pt Ej), (3, pt Ek), (4, pt Eb), (5, pt Ec), (6, pt Ea), (7, pt Ed), (8, pt Ee)] [0,1,2,3,4,5,6,7,8,9,10,11] [(50, .agg (zg (zh qb))), (51, .agg (zg (zh qa))), (52, .agg (zg (zh (nd (z7 1 (nv qb) (nv qa)))))), (53, .agg (zg (zh qd))), (54, .agg (zg (zh qc))), (55, .agg (zg (zh (nd (z7 1 (nv qd) (nv qc)))))), (56, .agg (zg (zh qd))), (57, .agg (zg (zh qc))), (58, .agg (zg (zh (nd (Zh 1 (nv qd) (nv qc)))))), (59, .agg (zg (zh qb))), (60, .agg (zg (zh qa))), (61, .agg (zg (zh (nd (Zh 1 (nv qb) (nv qa))))))] 4 [(2, pt Ej), (3, pt Ek), (4, pt Eb), (5, pt Ec), (6, pt Ea), (7, pt Ed), (8, pt Ee), (52, .agg (zg (zh (nd (z7 1 (nv qb) (nv qa)))))), (55, .agg (zg (zh (nd (z7 1 (nv qd) (nv qc)))))), (58, .agg (zg (zh (nd (Zh 1 (nv qd) (nv qc)))))), (61, .agg (zg (zh (nd (Zh 1 (nv qb) (nv qa))))))] 12 13 14 15 (zh (zd 4 0)) (zh (zd 4 0)) (zh (zd 4 0)) (zh (zd 4 0)) (E1.sb) (Ep.trans (zO Ep.heap)) ?_ fun _ _ Ef Eg Eh Ei E2 E3 => ?_
  ·
   refine s_a 4 0 4 (zh qb) rfl (zq (zf n_qb)) (zf n_qb) ?_
   refine s_a 3 0 4 (zh qa) rfl (zq (zf n_qa)) (zf n_qa) ?_
   refine s_f (fun _ => edif_go _ qb qa n_qb n_qa) ?_
   refine s_a 6 0 4 (zh qd) rfl (zq (zf n_qd)) (zf n_qd) ?_
   refine s_a 5 0 4 (zh qc) rfl (zq (zf n_qc)) (zf n_qc) ?_
   refine s_f (fun _ => edif_go _ qd qc n_qd n_qc) ?_
   refine s_a 6 0 4 (zh qd) rfl (zq (zf n_qd)) (zf n_qd) ?_
   refine s_a 5 0 4 (zh qc) rfl (zq (zf n_qc)) (zf n_qc) ?_
   refine s_f (fun _ => esum_go _ qd qc n_qd n_qc) ?_
   refine s_a 4 0 4 (zh qb) rfl (zq (zf n_qb)) (zf n_qb) ?_
   refine s_a 3 0 4 (zh qa) rfl (zq (zf n_qa)) (zf n_qa) ?_
   refine s_f (fun _ => esum_go _ qb qa n_qb n_qa) ?_
   exact s_n
  refine q_u 16 ?_
  refine zQ 7 4 (zh (nd (z7 1 (nv qb) (nv qa)))) [.box Ej ((zh x1) ++ ((zh y1) ++ ((zh z1) ++ (zh t1)))) 37, .box Ek ((zh x2) ++ ((zh y2) ++ ((zh z2) ++ (zh t2)))) 37, .box Eb ((zh (zd 4 0)) ++ ((zh (zd 4 0)) ++ ((zh (zd 4 0)) ++ (zh (zd 4 0))))) 37, .box Ec (zh qa) 33, .box Ea (zh qb) 33, .box Ed (zh qc) 33, .box Ee (zh qd) 33, .box Ef (zh (nd (z7 1 (nv qb) (nv qa)))) 33, .box Eg (zh (zd 4 0)) 33, .box Eh (zh (zd 4 0)) 33, .box Ei (zh (zd 4 0)) 33] E2 E3 rfl (zf (zl _ _)) (zf (zi)) (zt _) rfl fun _ _ E4 E5 => q_u 17 ?_
  refine zQ 8 4 (zh (nd (z7 1 (nv qd) (nv qc)))) _ E4 E5 rfl (zf (zl _ _)) (zf (zi)) (zt _) rfl fun _ _ E6 E7 => q_u 18 ?_
  refine zQ 9 4 (zh (nd (Zh 1 (nv qd) (nv qc)))) [.box Ej ((zh x1) ++ ((zh y1) ++ ((zh z1) ++ (zh t1)))) 37, .box Ek ((zh x2) ++ ((zh y2) ++ ((zh z2) ++ (zh t2)))) 37, .box Eb ((zh (zd 4 0)) ++ ((zh (zd 4 0)) ++ ((zh (zd 4 0)) ++ (zh (zd 4 0))))) 37, .box Ec (zh qa) 33, .box Ea (zh qb) 33, .box Ed (zh qc) 33, .box Ee (zh qd) 33, .box Ef (zh (nd (z7 1 (nv qb) (nv qa)))) 33, .box Eg (zh (nd (z7 1 (nv qd) (nv qc)))) 33, .box Eh (zh (nd (Zh 1 (nv qd) (nv qc)))) 33, .box Ei (zh (zd 4 0)) 33] E6 E7 rfl (zf (zl _ _)) (zf (zi)) (zt _) rfl fun _ _ E8 E9 => q_u 19 ?_
  refine zQ 10 4 (zh (nd (Zh 1 (nv qb) (nv qa)))) _ E8 E9 rfl (zf (zl _ _)) (zf (zi)) (zt _) rfl fun _ _ Ha Hb => ?_
  exact a_e ⟨Ef, Eg, Eh, Ei, Ha.sb, Hb.pk [0, 1, 2, 3, 4, 5, 6, 7, 8, 9, 10]⟩
 rintro _ _ ⟨Ef, Eg, Eh, Ei, Hc, El⟩
 obtain ⟨qe, h_qe⟩ : ∃ q : List UInt64, q = nd (z7 1 (nv qb) (nv qa)) := ⟨_, rfl⟩
 rw [← h_qe] at El
 have n_qe : zb qe = 4 := by rw [h_qe]; exact zl _ _
 obtain ⟨qf, h_qf⟩ : ∃ q : List UInt64, q = nd (z7 1 (nv qd) (nv qc)) := ⟨_, rfl⟩
 rw [← h_qf] at El
 have n_qf : zb qf = 4 := by rw [h_qf]; exact zl _ _
 obtain ⟨qg, h_qg⟩ : ∃ q : List UInt64, q = nd (Zh 1 (nv qd) (nv qc)) := ⟨_, rfl⟩
 rw [← h_qg] at El
 have n_qg : zb qg = 4 := by rw [h_qg]; exact zl _ _
 obtain ⟨qh, h_qh⟩ : ∃ q : List UInt64, q = nd (Zh 1 (nv qb) (nv qa)) := ⟨_, rfl⟩
 rw [← h_qh] at El
 have n_qh : zb qh = 4 := by rw [h_qh]; exact zl _ _
 refine ze <| wp_seq <| r_c (fun ac wo => Env ac 75 [(2, pt Ej), (3, pt Ek), (4, pt Eb), (5, pt Ec), (6, pt Ea), (7, pt Ed), (8, pt Ee), (9, pt Ef), (10, pt Eg), (11, pt Eh), (12, pt Ei)] ∧ Ev w [] wo [.box Ej ((zh x1) ++ ((zh y1) ++ ((zh z1) ++ (zh t1)))) 37, .box Ek ((zh x2) ++ ((zh y2) ++ ((zh z2) ++ (zh t2)))) 37, .box Eb ((zh (nd (zr 1 (nv qe) (nv qf)))) ++ ((zh (nd (zr 1 (nv qg) (nv qh)))) ++ ((zh (nd (zr 1 (nv qf) (nv qg)))) ++ (zh (nd (zr 1 (nv qe) (nv qh))))))) 37, .box Ec (zh qa) 33, .box Ea (zh qb) 33, .box Ed (zh qc) 33, .box Ee (zh qd) 33, .box Ef (zh qe) 33, .box Eg (zh qf) 33, .box Eh (zh qg) 33, .box Ei (zh qh) 33]) ?_ ?_
 ·
  refine s_g0 [(2, pt Ej), (3, pt Ek), (4, pt Eb), (5, pt Ec), (6, pt Ea), (7, pt Ed), (8, pt Ee), (9, pt Ef), (10, pt Eg), (11, pt Eh), (12, pt Ei)] [0,1,2,3,4,5,6,7,8,9,10,11,12] [(62, .agg (zg (zh qe))), (63, .agg (zg (zh qf))), (64, .agg (zg (zh (nd (zr 1 (nv qe) (nv qf)))))), (65, .agg (zg (zh qg))), (66, .agg (zg (zh qh))), (67, .agg (zg (zh (nd (zr 1 (nv qg) (nv qh)))))), (68, .agg (zg (zh qf))), (69, .agg (zg (zh qg))), (70, .agg (zg (zh (nd (zr 1 (nv qf) (nv qg)))))), (71, .agg (zg (zh qe))), (72, .agg (zg (zh qh))), (73, .agg (zg (zh (nd (zr 1 (nv qe) (nv qh)))))), (74, .agg (zg ((zh (nd (zr 1 (nv qe) (nv qf)))) ++ ((zh (nd (zr 1 (nv qg) (nv qh)))) ++ ((zh (nd (zr 1 (nv qf) (nv qg)))) ++ (zh (nd (zr 1 (nv qe) (nv qh)))))))))] 1 [(2, pt Ej), (3, pt Ek), (4, pt Eb), (5, pt Ec), (6, pt Ea), (7, pt Ed), (8, pt Ee), (9, pt Ef), (10, pt Eg), (11, pt Eh), (12, pt Ei), (74, .agg (zg ((zh (nd (zr 1 (nv qe) (nv qf)))) ++ ((zh (nd (zr 1 (nv qg) (nv qh)))) ++ ((zh (nd (zr 1 (nv qf) (nv qg)))) ++ (zh (nd (zr 1 (nv qe) (nv qh)))))))))] (Hc.sb) (El.trans (zO El.heap)) ?_ fun _ _ Hd He => ?_
  ·
   refine s_a 7 0 4 (zh qe) rfl (zq (zf n_qe)) (zf n_qe) ?_
   refine s_a 8 0 4 (zh qf) rfl (zq (zf n_qf)) (zf n_qf) ?_
   refine s_f (fun _ => emul_go _ qe qf n_qe n_qf) ?_
   refine s_a 9 0 4 (zh qg) rfl (zq (zf n_qg)) (zf n_qg) ?_
   refine s_a 10 0 4 (zh qh) rfl (zq (zf n_qh)) (zf n_qh) ?_
   refine s_f (fun _ => emul_go _ qg qh n_qg n_qh) ?_
   refine s_a 8 0 4 (zh qf) rfl (zq (zf n_qf)) (zf n_qf) ?_
   refine s_a 9 0 4 (zh qg) rfl (zq (zf n_qg)) (zf n_qg) ?_
   refine s_f (fun _ => emul_go _ qf qg n_qf n_qg) ?_
   refine s_a 7 0 4 (zh qe) rfl (zq (zf n_qe)) (zf n_qe) ?_
   refine s_a 10 0 4 (zh qh) rfl (zq (zf n_qh)) (zf n_qh) ?_
   refine s_f (fun _ => emul_go _ qe qh n_qe n_qh) ?_
   refine s_p [] ?_
   exact s_n
  refine q_u 13 ?_
  refine zQ 2 16 ((zh (nd (zr 1 (nv qe) (nv qf)))) ++ ((zh (nd (zr 1 (nv qg) (nv qh)))) ++ ((zh (nd (zr 1 (nv qf) (nv qg)))) ++ (zh (nd (zr 1 (nv qe) (nv qh))))))) [.box Ej ((zh x1) ++ ((zh y1) ++ ((zh z1) ++ (zh t1)))) 37, .box Ek ((zh x2) ++ ((zh y2) ++ ((zh z2) ++ (zh t2)))) 37, .box Eb ((zh (nd (zr 1 (nv qe) (nv qf)))) ++ ((zh (nd (zr 1 (nv qg) (nv qh)))) ++ ((zh (nd (zr 1 (nv qf) (nv qg)))) ++ (zh (nd (zr 1 (nv qe) (nv qh))))))) 37, .box Ec (zh qa) 33, .box Ea (zh qb) 33, .box Ed (zh qc) 33, .box Ee (zh qd) 33, .box Ef (zh qe) 33, .box Eg (zh qf) 33, .box Eh (zh qg) 33, .box Ei (zh qh) 33] Hd He rfl (zE (zf (zl _ _)) (zE (zf (zl _ _)) (zE (zf (zl _ _)) (zf (zl _ _))))) (zE (zf (zi)) (zE (zf (zi)) (zE (zf (zi)) (zf (zi))))) (QB (zt _) (QB (zt _) (QB (zt _) (zt _)))) rfl fun _ _ Hf Hg => ?_
  exact a_e ⟨Hf.sb, Hg.pk [0, 1, 2, 3, 4, 5, 6, 7, 8, 9, 10]⟩
 rintro _ _ ⟨Hh, Es⟩
 refine ze <| wp_ret <| z9 (v := .agg (zg ((zh (nd (zr 1 (nv qe) (nv qf)))) ++ ((zh (nd (zr 1 (nv qg) (nv qh)))) ++ ((zh (nd (zr 1 (nv qf) (nv qg)))) ++ (zh (nd (zr 1 (nv qe) (nv qh))))))))) (t := 4) (T := 37) (ad := ⟨Eb, 0, none⟩) Hh (by kernel_rfl) (by kernel_rfl) (zB (t := 37) (k := 2) (off := 0) (m := 16) (xs := (zh (nd (zr 1 (nv qe) (nv qf)))) ++ ((zh (nd (zr 1 (nv qg) (nv qh)))) ++ ((zh (nd (zr 1 (nv qf) (nv qg)))) ++ (zh (nd (zr 1 (nv qe) (nv qh))))))) Es rfl (zq (zE (zf (zl _ _)) (zE (zf (zl _ _)) (zE (zf (zl _ _)) (zf (zl _ _)))))) (zE (zf (zl _ _)) (zE (zf (zl _ _)) (zE (zf (zl _ _)) (zf (zl _ _))))) (by kernel_rfl) (by kernel_rfl)) ?_
 have e0 : nd (zr 1 (nv qe) (nv qf)) = nd (zr 1 (oE (nv x1) (nv y1) (nv x2) (nv y2)) (oF (nv z1) (nv t1) (nv z2) (nv t2))) := by
  subst h_qh h_qg h_qf h_qe h_qd h_qc h_qb h_qa
  simp only [nv_m1, nv_a1, nv_s1, nv_d2, oE, oF, oG, oH, oA, oB, oC, oD]
 have e1 : nd (zr 1 (nv qg) (nv qh)) = nd (zr 1 (oG (nv z1) (nv t1) (nv z2) (nv t2)) (oH (nv x1) (nv y1) (nv x2) (nv y2))) := by
  subst h_qh h_qg h_qf h_qe h_qd h_qc h_qb h_qa
  simp only [nv_m1, nv_a1, nv_s1, nv_d2, oE, oF, oG, oH, oA, oB, oC, oD]
 have e2 : nd (zr 1 (nv qf) (nv qg)) = nd (zr 1 (oF (nv z1) (nv t1) (nv z2) (nv t2)) (oG (nv z1) (nv t1) (nv z2) (nv t2))) := by
  subst h_qh h_qg h_qf h_qe h_qd h_qc h_qb h_qa
  simp only [nv_m1, nv_a1, nv_s1, nv_d2, oE, oF, oG, oH, oA, oB, oC, oD]
 have e3 : nd (zr 1 (nv qe) (nv qh)) = nd (zr 1 (oE (nv x1) (nv y1) (nv x2) (nv y2)) (oH (nv x1) (nv y1) (nv x2) (nv y2))) := by
  subst h_qh h_qg h_qf h_qe h_qd h_qc h_qb h_qa
  simp only [nv_m1, nv_a1, nv_s1, nv_d2, oE, oF, oG, oH, oA, oB, oC, oD]
 exact ⟨ret4 e0 e1 e2 e3, Es.pk []⟩
theorem with16_go (w : World) (p q : L4) (hp : p.length = 16) (hq : q.length = 16) : Calls Tryz.prog 33 #[.agg (zg (zh p)), .agg (zg (zh q))] w fun e w' => e = .returned (.agg (zg (zh (wtE p q)))) ∧ Ev w [] w' [] := by
  have h := with_go w (p.take 4) ((p.drop 4).take 4) ((p.drop 8).take 4) (p.drop 12) (q.take 4) ((q.drop 4).take 4) ((q.drop 8).take 4) (q.drop 12) (by simp [hp]) (by simp [hp]) (by simp [hp]) (by simp [hp]) (by simp [hq]) (by simp [hq]) (by simp [hq]) (by simp [hq])
  rw [cut16, cut16, cat16] at h
  exact h
end Go.Proofs.YtlnogkmnklfjlaaGreatDoor

namespace Go.Dbr
open Go Go.RowKit
set_option linter.unusedSimpArgs false
set_option linter.unusedVariables false
section
variable {P : Program} {w : World}
end
end Go.Dbr

namespace Go.Dbr
open Go Go.RowKit
set_option linter.unusedSimpArgs false
set_option linter.unusedVariables false
end Go.Dbr

namespace Go.Proofs.YtlnogkmnklfjlaaGreatDoor
open Go.Dbr
set_option maxRecDepth 100000
set_option maxHeartbeats 2000000
set_option linter.unusedVariables false
set_option linter.unusedSimpArgs false
def rows0 : L4 := Xv ++ zd 240 0
theorem rows0_len : rows0.length = 256 := rfl
theorem put_same {l x : L4} {i : Nat} (hl : l.length = 256) (hx : x.length = 16) (hi : i < 16) : zn 16 (zo (i * 16) (zn (i * 16) l ++ x ++ zo (i * 16 + 16) l)) = x := by
  have h1 : (zn (i * 16) l).length = i * 16 := by rw [zs]; omega
  rw [Qj, List.drop_left' h1, List.take_left' hx]
theorem put_other {l x : L4} {i j : Nat} (hl : l.length = 256) (hx : x.length = 16) (hi : i < 16) (hj : j < i) : zn 16 (zo (j * 16) (zn (i * 16) l ++ x ++ zo (i * 16 + 16) l)) = zn 16 (zo (j * 16) l) := by
  refine Q9 fun q => ?_
  rw [ZT, ZT]
  split
  · rename_i hq
    rw [QJ, QJ, Qj, zW (by rw [zs]; omega), ZT, if_pos (by omega)]
  · rfl
theorem nib_shr (x : UInt64) (m : Nat) (hm : m < 16) : ((x >>> zc (4 * m)) &&& 15).toNat = x.toNat / 16 ^ m % 16 := by
  rw [QV, UInt64.toNat_shiftRight, show (15 : UInt64).toNat = 2 ^ 4 - 1 from rfl, Nat.and_two_pow_sub_one_eq_mod, ofNat_val, zG (show 4 * m < 18446744073709551616 by omega), zG (show 4 * m < 64 by omega), Nat.shiftRight_eq_div_pow, show (2 : Nat) ^ (4 * m) = 16 ^ m from by rw [Qx]]
theorem dig_nv {k : L4} (hk : k.length = 4) (j : Nat) (hj : j < 4) : (za k j 0).toNat = nv k / 18446744073709551616 ^ j % 18446744073709551616 := by
  match k, hk with
  | [a, b, c, d], _ =>
    rw [nv4]
    have h1 := lt64 a
    have h2 := lt64 b
    have h3 := lt64 c
    have h4 := lt64 d
    match j, hj with
    | 0, _ => show a.toNat = _; rw [Nat.pow_zero]; omega
    | 1, _ => show b.toNat = _; rw [Nat.pow_one]; omega
    | 2, _ => show c.toNat = _; rw [show (18446744073709551616 : Nat) ^ 2 = 340282366920938463463374607431768211456 from rfl]; omega
    | 3, _ => show d.toNat = _; rw [show (18446744073709551616 : Nat) ^ 3 = 6277101735386680763835789423207666416102355444464034512896 from rfl]; omega
theorem nib_u {k : L4} (hk : k.length = 4) {i : Nat} (hi : i < 64) : ((zw ((za k (i / 16) 0 >>> zc (4 * (i % 16))) &&& 15) : Nat) : Int) = ((nib (nv k) i : Nat) : Int) := by
  rw [nib_shr _ _ (by omega), dig_nv hk _ (by omega), nib]
  congr 1
  have e : (16 : Nat) ^ i = 18446744073709551616 ^ (i / 16) * 16 ^ (i % 16) := by
    rw [show (18446744073709551616 : Nat) = 16 ^ 16 from rfl, ← Qx, ← Qc]
    congr 1
    omega
  rw [e, ← Nat.div_div_eq_div_mul]
  generalize nv k / 18446744073709551616 ^ (i / 16) = q
  have hm : i % 16 < 16 := ZL _ (by decide)
  have e2 : (18446744073709551616 : Nat) = 16 ^ (i % 16) * (16 * 16 ^ (15 - i % 16)) := by
    rw [show (18446744073709551616 : Nat) = 16 ^ 16 from rfl, ← Nat.pow_succ', ← Qc]
    congr 1
    omega
  rw [e2, Nat.mod_mul_right_div_self, Nat.mod_mul_right_mod]
theorem nib_lt (k i : Nat) : nib k i < 16 := ZL _ (by decide)
theorem rows0_0 : zn 16 (zo (0 * 16) rows0) = Xv := rfl
theorem times16_go (w : World) (p k : List UInt64) (hp : zb p = 16) (hk : zb k = 4) : Calls Tryz.prog 14 #[.agg (zg (zh p)), .agg (zg (zh k))] w fun e w' => e = .returned (.agg (zg (zh (tmF p (nv k) 64)))) ∧ Ev w [] w' [] := by
 refine d_0 [(0, .agg (zg (zh p))), (1, .agg (zg (zh k)))] 48 Go.Proofs.Tryz.func14 Go.Proofs.Tryz.ntmps14 (Heap.nil _) fun Hx Hy Hz => wp_seq <| zk <| f_o <| m_m 37 (zh p) Hy Hz fun _ _ Ee HA HB => f_o <| m_m 33 (zh k) HA HB fun _ _ Ed HC E4 => f_o <| m_z 37 (zh (zd 16 0)) HC E4 fun _ _ Eb E5 E6 => ?_
 refine f_e <| ze <| wp_seq <| zk <| f_o <| c_p E5 E6 (nothing_go _) fun _ _ E7 E8 => d_k [2,3,4,10] [] 2 E7 fun _ E9 => f_o <| m_z 65 (zh (zd 256 0)) E9 E8 fun _ _ Ea Ha Hb => f_o <| zQ 3 256 (zh rows0) _ Ha Hb rfl (zf rows0_len) (zf (zi)) (zt _) rfl fun _ _ Hc Hd => ?_
 refine f_e <| ze <| wp_seq <| d_s [2,3,4,5,6] [] Hc fun _ He => wp_block <| loop_m (fun Hf ac wo => ∃ (i : Nat) (R : List UInt64), Hf = (15 - i : Nat) ∧ Env ac 48 [(2, pt Ee), (3, pt Ed), (4, pt Eb), (5, pt Ea), (6, ni (i + 1))] ∧ Ev w [] wo [.box Ea (zh R) 65, .box Ee (zh p) 37, .box Ed (zh k) 33, .box Eb (zh (zd 16 0)) 37] ∧ (i ≤ 15) ∧ (zb R = 256) ∧ (∀ j, j < i + 1 → zn 16 (zo (j * 16) R) = rowF p j)) ⟨_, 0, rows0, rfl, He.sb, Hd.pk [3, 0, 1, 2], (by omega), rows0_len, (fun j hj => by have e : j = 0 := (by omega); subst e; exact rows0_0)⟩ ?_
 rintro HD _ _ ⟨i, R, rfl, Hg, El, hi, hR, hf⟩
 refine wp_seq <| d_s [2,3,4,5,6,12] [] Hg fun _ Em => ?_
 refine c_d (((i + 1 : Nat) : Int) < (16 : Int)) Em (fun Hh => ?_) (fun Hh => ?_)
 ·
  refine wp_skip <| ze <| wp_seq <| wp_block <| r_c (fun ac wo => Env ac 48 [(2, pt Ee), (3, pt Ed), (4, pt Eb), (5, pt Ea), (6, ni (i + 1))] ∧ Ev w [] wo [.box Ea (zh (zn ((i + 1) * 16) R ++ (wtE (zn 16 (zo (i * 16) R)) p) ++ zo (((i + 1) * 16) + 16) R)) 65, .box Ee (zh p) 37, .box Ed (zh k) 33, .box Eb (zh (zd 16 0)) 37]) ?_ ?_
  ·
   refine s_g0 [(2, pt Ee), (3, pt Ed), (4, pt Eb), (5, pt Ea), (6, ni (i + 1))] [0,1,2,3,4,5,6,7] [(15, ni (i + 1)), (16, ni (i + 1)), (17, ni i), (18, .pointer (some ⟨Ea, i * 16, none⟩)), (19, .agg (zg (zh (zn 16 (zo (i * 16) R))))), (20, .agg (zg (zh p))), (21, .agg (zg (zh (wtE (zn 16 (zo (i * 16) R)) p)))), (22, .pointer (some ⟨Ea, (i + 1) * 16, none⟩))] 1 [(2, pt Ee), (3, pt Ed), (4, pt Eb), (5, pt Ea), (6, ni (i + 1)), (21, .agg (zg (zh (wtE (zn 16 (zo (i * 16) R)) p)))), (22, .pointer (some ⟨Ea, (i + 1) * 16, none⟩))] (Em.sb) (El.trans (zO El.heap)) ?_ fun _ _ Hi Hj => ?_
   ·
    refine s_p [] ?_
    refine s_p [] ?_
    refine s_p [(2, g_n (w_r (e := ((i + 1 : Nat) : Int) - (1 : Int)) (x := ((i : Nat) : Int)) (by omega)))] ?_
    refine s_c (fun Mx46 _ _ Hk Hl => ?_) ?_
    ·
     refine q_v (x := Instr.indexAt 65 (pt Ea) (ni i)) (v := .pointer (some ⟨Ea, i * 16, none⟩)) Hk (Go.Dbr.run_indexarr (e := 37) (sz := 16) (m := 16) (j := i) (o := i * 16) (by kernel_rfl) (by kernel_rfl) (by omega) (by omega) (by omega) _) fun _ Hm => ?_
     exact s_e Hm Hl
    refine s_a 0 (i * 16) 16 (zh (zn 16 (zo (i * 16) R))) rfl (u64s_sub _ _ _) (zf (Xf hR (by omega))) ?_
    refine s_a 1 0 16 (zh p) rfl (zq (zf hp)) (zf hp) ?_
    refine s_f (fun _ => with16_go _ (zn 16 (zo (i * 16) R)) p (Xf hR (by omega)) hp) ?_
    refine s_c (fun Mx72 _ _ Hn Ho => ?_) ?_
    ·
     refine q_v (x := Instr.indexAt 65 (pt Ea) (ni (i + 1))) (v := .pointer (some ⟨Ea, (i + 1) * 16, none⟩)) Hn (Go.Dbr.run_indexarr (e := 37) (sz := 16) (m := 16) (j := i + 1) (o := (i + 1) * 16) (by kernel_rfl) (by kernel_rfl) (by omega) (by omega) (by omega) _) fun _ Hp => ?_
     exact s_e Hp Ho
    exact s_n
   refine q_u 8 ?_
   refine m_g 0 ((i + 1) * 16) 16 (zh (wtE (zn 16 (zo (i * 16) R)) p)) (zh (zn ((i + 1) * 16) R ++ (wtE (zn 16 (zo (i * 16) R)) p) ++ zo (((i + 1) * 16) + 16) R)) [.box Ea (zh (zn ((i + 1) * 16) R ++ (wtE (zn 16 (zo (i * 16) R)) p) ++ zo (((i + 1) * 16) + 16) R)) 65, .box Ee (zh p) 37, .box Ed (zh k) 33, .box Eb (zh (zd 16 0)) 37] Hi Hj rfl (zf (J3 _ _)) (by rw [(zf hR)]; omega) (zt _) (u64s_put _ _ _ _) rfl fun _ _ Hq Hr => ?_
   exact a_e ⟨Hq.sb, Hr.pk [0, 1, 2, 3]⟩
  rintro _ _ ⟨Hs, Ht⟩
  refine zv <| ze <| d_r [2,3,4,5,6] [(1, g_n (w_a (i + 1) 1))] Hs fun _ Hu => ze <| ⟨_, ⟨i + 1, (zn ((i + 1) * 16) R ++ (wtE (zn 16 (zo (i * 16) R)) p) ++ zo (((i + 1) * 16) + 16) R), rfl, Hu.sb, Ht.pk [0, 1, 2, 3], (by omega), (put_len hR (J3 _ _) (by omega)), (fun j hj => by rcases Nat.lt_succ_iff_lt_or_eq.1 hj with h | h; (rw [put_other hR (J3 _ _) (by omega) (by omega)]; exact hf j (by omega)); (rw [h, put_same hR (J3 _ _) (by omega)]; rw [hf i (Nat.lt_succ_self i)]; rfl))⟩, ?_⟩
  omega
 refine wp_exit <| zy <| zy <| zL <| ze <| wp_seq <| zk <| f_o <| c_p Em El (nothing_go _) fun _ _ En Eo => f_o <| m_z 37 (zh (zd 16 0)) En Eo fun _ _ Ec Ep Eq => f_o <| zQ 4 16 (zh Xv) _ Ep Eq rfl (zf (l4_len _ _ _ _)) (zf (zi)) (zt _) rfl fun _ _ Er Es => f_e <| ze <| wp_seq <| d_s [2,3,4,5,6,7,8] [] Er fun _ Et => ?_
 refine wp_block <| loop_m (fun Eu ac wo => ∃ (j : Nat) (o : List UInt64), Eu = (64 - j : Nat) ∧ Env ac 48 [(2, pt Ee), (3, pt Ed), (4, pt Eb), (5, pt Ea), (6, ni (i + 1)), (7, pt Ec), (8, .int .i64 ((63 : Int) - ((j : Nat) : Int)))] ∧ Ev w [] wo [.box Ec (zh o) 37, .box Ea (zh R) 65, .box Ee (zh p) 37, .box Ed (zh k) 33, .box Eb (zh (zd 16 0)) 37] ∧ (j ≤ 64) ∧ (zb o = 16) ∧ (o = tmF p (nv k) j)) ⟨_, 0, Xv, rfl, Et.sb, Es.pk [4, 0, 1, 2, 3], (by omega), (l4_len _ _ _ _), rfl⟩ ?_
 rintro Hv _ _ ⟨j, o, rfl, Ew, Eg, hj, ho, he⟩
 refine wp_seq <| d_s [2,3,4,5,6,7,8,25] [] Ew fun _ Eh => ?_
 refine c_d ((63 : Int) - ((j : Nat) : Int) ≥ (0 : Int)) Eh (fun Ex => ?_) (fun Ex => ?_)
 ·
  refine wp_skip <| ze <| wp_seq <| wp_block <| wp_seq <| d_s [2,3,4,5,6,7,8,28] [] Eh fun _ Ey => wp_block <| loop_m (fun Ez ac wo => ∃ (q : Nat) (o2 : List UInt64), Ez = (4 - q : Nat) ∧ Env ac 48 [(2, pt Ee), (3, pt Ed), (4, pt Eb), (5, pt Ea), (6, ni (i + 1)), (7, pt Ec), (8, .int .i64 ((63 : Int) - ((j : Nat) : Int))), (28, ni q)] ∧ Ev w [] wo [.box Ec (zh o2) 37, .box Ea (zh R) 65, .box Ee (zh p) 37, .box Ed (zh k) 33, .box Eb (zh (zd 16 0)) 37] ∧ (q ≤ 4) ∧ (zb o2 = 16) ∧ (o2 = dblF o q)) ⟨_, 0, o, rfl, Ey.sb, Eg.pk [0, 1, 2, 3, 4], (by omega), ho, rfl⟩ ?_
  rintro Hw _ _ ⟨q, o2, rfl, EA, Ef, hq, ho2, heq⟩
  refine d_s [2,3,4,5,6,7,8,28,29] [] EA fun _ Ei => ?_
  refine wp_seq <| c_d (((q : Nat) : Int) < (4 : Int)) Ei (fun EB => ?_) (fun EB => ?_)
  ·
   refine wp_skip <| ze <| wp_seq <| wp_block <| zk <| f_o <| Zp 0 16 (zh o2) Ei Ef rfl (zf ho2) fun _ EC => f_o <| Zp 0 16 (zh o2) EC Ef rfl (zf ho2) fun _ ED => f_o <| c_p ED Ef (with16_go _ o2 o2 ho2 ho2) fun _ _ EE EF => f_o <| zQ 0 16 (zh (wtE o2 o2)) [.box Ec (zh (wtE o2 o2)) 37, .box Ea (zh R) 65, .box Ee (zh p) 37, .box Ed (zh k) 33, .box Eb (zh (zd 16 0)) 37] EE EF rfl (zf (J3 _ _)) (zf ho2) (zt _) rfl fun _ _ EG EH => ?_
   refine f_e <| zv <| ze <| d_r [2,3,4,5,6,7,8,28] [(0, g_n (w_a q 1))] EG fun _ EI => ze <| ⟨_, ⟨q + 1, (wtE o2 o2), rfl, EI.sb, EH.pk [0, 1, 2, 3, 4], (by omega), (J3 _ _), (by rw [heq]; rfl)⟩, ?_⟩
   omega
  refine wp_exit <| zy <| zy <| zL <| ze ?_
  have hq4 : q = 4 := by omega
  have HE : o2 = dblF o 4 := by rw [heq, hq4]
  have hj63 : j < 64 := by omega
  have hnl := nib_lt (nv k) (63 - j)
  refine r_c (fun ac wo => Env ac 48 [(2, pt Ee), (3, pt Ed), (4, pt Eb), (5, pt Ea), (6, ni (i + 1)), (7, pt Ec), (8, .int .i64 ((63 : Int) - ((j : Nat) : Int))), (28, ni q)] ∧ Ev w [] wo [.box Ec (zh (wtE o2 (zn 16 (zo ((nib (nv k) (63 - j)) * 16) R)))) 37, .box Ea (zh R) 65, .box Ee (zh p) 37, .box Ed (zh k) 33, .box Eb (zh (zd 16 0)) 37]) ?_ ?_
  ·
   refine s_g0 [(2, pt Ee), (3, pt Ed), (4, pt Eb), (5, pt Ea), (6, ni (i + 1)), (7, pt Ec), (8, .int .i64 ((63 : Int) - ((j : Nat) : Int))), (28, ni q)] [0,1,2,3,4,5,6,7,8,9,10,11,12] [(34, .agg (zg (zh o2))), (35, ni (63 - j)), (36, ni ((63 - j) / 16)), (37, .pointer (some ⟨Ed, (63 - j) / 16, none⟩)), (38, zm (za k ((63 - j) / 16) 0)), (39, ni (63 - j)), (40, ni ((63 - j) % 16)), (41, ni (4 * ((63 - j) % 16))), (42, zm ((za k ((63 - j) / 16) 0) >>> zc (4 * ((63 - j) % 16)))), (43, .int .u64 ((nib (nv k) (63 - j) : Nat) : Int)), (44, .pointer (some ⟨Ea, (nib (nv k) (63 - j)) * 16, none⟩)), (45, .agg (zg (zh (zn 16 (zo ((nib (nv k) (63 - j)) * 16) R))))), (46, .agg (zg (zh (wtE o2 (zn 16 (zo ((nib (nv k) (63 - j)) * 16) R))))))] 1 [(2, pt Ee), (3, pt Ed), (4, pt Eb), (5, pt Ea), (6, ni (i + 1)), (7, pt Ec), (8, .int .i64 ((63 : Int) - ((j : Nat) : Int))), (28, ni q), (46, .agg (zg (zh (wtE o2 (zn 16 (zo ((nib (nv k) (63 - j)) * 16) R))))))] (Ei.sb) (Ef.trans (zO Ef.heap)) ?_ fun _ _ EJ EK => ?_
   ·
    refine s_a 0 0 16 (zh o2) rfl (zq (zf ho2)) (zf ho2) ?_
    refine s_p [(1, g_i .i64 (show (63 : Int) - ((j : Nat) : Int) = ((63 - j : Nat) : Int) from by omega))] ?_
    refine s_p [(2, g_i .i64 (show IntKind.wrap .i64 (Int.tdiv ((63 - j : Nat) : Int) (16 : Int)) = (((63 - j) / 16 : Nat) : Int) from Go.Dbr.i64_quo_nat (a := ((63 - j : Nat) : Int)) (n := 63 - j) (m := 16) rfl (by omega)))] ?_
    refine s_c (fun Mx159 _ _ EL EM => ?_) ?_
    ·
     refine q_v (x := Instr.indexAt 33 (pt Ed) (ni ((63 - j) / 16))) (v := .pointer (some ⟨Ed, (63 - j) / 16, none⟩)) EL (Go.Dbr.run_indexarr (e := 31) (sz := 1) (m := 4) (j := (63 - j) / 16) (o := (63 - j) / 16) (by kernel_rfl) (by kernel_rfl) (by omega) (by omega) (by omega) _) fun _ EN => ?_
     exact s_e EN EM
    refine s_c (fun Mx166 _ _ EO Ej => ?_) ?_
    ·
     have EP : (63 - j) / 16 < zb k := by rw [hk]; omega
     refine m_v 3 ((63 - j) / 16) (zm (za k ((63 - j) / 16) 0)) EO Ej rfl (u64s_getD EP) fun _ EQ => ?_
     exact s_e EQ Ej
    refine s_p [(5, g_i .i64 (show (63 : Int) - ((j : Nat) : Int) = ((63 - j : Nat) : Int) from by omega))] ?_
    refine s_p [(6, g_i .i64 (show Int.tmod ((63 - j : Nat) : Int) (16 : Int) = (((63 - j) % 16 : Nat) : Int) from Go.Dbr.i64_rem_nat (a := ((63 - j : Nat) : Int)) (n := 63 - j) (m := 16) rfl (by omega)))] ?_
    refine s_p [(7, g_n (w_m 4 ((63 - j) % 16)))] ?_
    refine s_c (fun Mx174 _ _ ER ES => ?_) ?_
    ·
     refine q_v ER (Go.Dbr.run_shr_u64 (za k ((63 - j) / 16) 0) .i64 (4 * ((63 - j) % 16)) (by omega) _) fun _ ET => ?_
     exact s_e ET ES
    refine s_p [(9, g_v (show (.int .u64 (IntKind.wrap .u64 ((ZW (IntKind.bits .u64) ((zw ((za k ((63 - j) / 16) 0) >>> zc (4 * ((63 - j) % 16))) : Nat) : Int) &&& ZW (IntKind.bits .u64) (15 : Int)).toNat : Int)) : Value) = .int .u64 ((nib (nv k) (63 - j) : Nat) : Int) by rw [Go.Dbr.u64_and (a := ((zw ((za k ((63 - j) / 16) 0) >>> zc (4 * ((63 - j) % 16))) : Nat) : Int)) (b := (15 : Int)) (x := (za k ((63 - j) / 16) 0) >>> zc (4 * ((63 - j) % 16))) (y := (15 : UInt64)) rfl rfl, nib_u hk (show 63 - j < 64 by omega)] <;> rfl))] ?_
    refine s_c (fun Mx181 _ _ EU EV => ?_) ?_
    ·
     refine q_v (x := Instr.indexAt 65 (pt Ea) (.int .u64 ((nib (nv k) (63 - j) : Nat) : Int))) (v := .pointer (some ⟨Ea, (nib (nv k) (63 - j)) * 16, none⟩)) EU (Go.Dbr.run_indexarr (e := 37) (sz := 16) (m := 16) (j := nib (nv k) (63 - j)) (o := (nib (nv k) (63 - j)) * 16) (by kernel_rfl) (by kernel_rfl) (by omega) (by omega) (by omega) _) fun _ EW => ?_
     exact s_e EW EV
    refine s_a 1 ((nib (nv k) (63 - j)) * 16) 16 (zh (zn 16 (zo ((nib (nv k) (63 - j)) * 16) R))) rfl (u64s_sub _ _ _) (zf (Xf hR (by omega))) ?_
    refine s_f (fun _ => with16_go _ o2 (zn 16 (zo ((nib (nv k) (63 - j)) * 16) R)) ho2 (Xf hR (by omega))) ?_
    exact s_n
   refine q_u 13 ?_
   refine zQ 0 16 (zh (wtE o2 (zn 16 (zo ((nib (nv k) (63 - j)) * 16) R)))) _ EJ EK rfl (zf (J3 _ _)) (zf ho2) (zt _) rfl fun _ _ EX EY => ?_
   exact a_e ⟨EX.sb, EY.pk [0, 1, 2, 3, 4]⟩
  rintro _ _ ⟨EZ, E0⟩
  refine zv <| ze <| d_r [2,3,4,5,6,7,8,28] [(1, g_n (w_r (e := ((63 : Int) - ((j : Nat) : Int)) - (1 : Int)) (x := (63 : Int) - ((j + 1 : Nat) : Int)) (by omega)))] EZ fun _ E1 => ze <| ⟨_, ⟨j + 1, (wtE o2 (zn 16 (zo ((nib (nv k) (63 - j)) * 16) R))), rfl, E1.sb, E0.pk [0, 1, 2, 3, 4], (by omega), (J3 _ _), (by rw [HE, hf _ (by have := nib_lt (nv k) (63 - j); omega), he]; rfl)⟩, ?_⟩
  omega
 refine wp_exit <| zy <| zy <| zL <| ze <| wp_seq <| zk <| f_o <| Zp 0 16 (zh o) Eh Eg rfl (zf ho) fun _ E2 => f_o <| zQ 4 16 (zh o) [.box Ec (zh o) 37, .box Ea (zh R) 65, .box Ee (zh p) 37, .box Ed (zh k) 33, .box Eb (zh o) 37] E2 Eg rfl (zf ho) (zf (zi)) (zt _) rfl fun _ _ E3 Ek => f_e <| ze <| wp_ret <| z9 (v := .agg (zg (zh o))) (t := 4) (T := 37) (ad := ⟨Eb, 0, none⟩) E3 (by kernel_rfl) (by kernel_rfl) (zB (t := 37) (k := 4) (off := 0) (m := 16) (xs := zh o) Ek rfl (zq (zf ho)) (zf ho) (by kernel_rfl) (by kernel_rfl)) ?_
 have hj4 : j = 64 := by omega
 exact ⟨by rw [he, hj4], Ek.pk []⟩
end Go.Proofs.YtlnogkmnklfjlaaGreatDoor

namespace Go.Proofs.YtlnogkmnklfjlaaGreatDoor
open Go.Dbr
set_option maxRecDepth 100000
set_option maxHeartbeats 2000000
set_option linter.unusedVariables false
set_option linter.unusedSimpArgs false
theorem odd_of (a : Nat) : zj (za (nd a) 0 0 &&& 1) <<< zK 7 = zK (a % 2) <<< 7 := by
  congr 1
  apply UInt8.toNat_inj.1
  have e : za (nd a) 0 0 = zc a := rfl
  rw [e, UInt64.toNat_toUInt8, QV, show (1 : UInt64).toNat = 1 from rfl, Nat.and_one_is_mod, ofNat_val, UInt8.toNat_ofNat']
  omega
theorem bytes_go (w : World) (x1 y1 z1 t1 : List UInt64) (hx1 : zb x1 = 4) (hy1 : zb y1 = 4) (Eh : zb z1 = 4) (ht1 : zb t1 = 4) : Calls Tryz.prog 15 #[.agg (zg ((zh x1) ++ ((zh y1) ++ ((zh z1) ++ (zh t1)))))] w fun e w' => e = .returned (.agg (zg (bys (outN (zr 1 (nv x1) (ivE (nv z1))) (zr 1 (nv y1) (ivE (nv z1))))))) ∧ Ev w [] w' [] := by
 refine d_0 [(0, .agg (zg ((zh x1) ++ ((zh y1) ++ ((zh z1) ++ (zh t1))))))] 26 Go.Proofs.Tryz.func15 Go.Proofs.Tryz.ntmps15 (Heap.nil _) fun ES ET EU => wp_seq <| zk <| f_o <| m_m 37 ((zh x1) ++ ((zh y1) ++ ((zh z1) ++ (zh t1)))) ET EU fun _ _ Ee EV EW => f_o <| m_z 22 (bys (zd 32 0)) EV EW fun _ _ Ef EX Ei => f_e <| ze <| wp_seq <| zk <| d_k [1,2,5] [] 1 EX fun _ Er => ?_
 refine f_o <| m_a 0 8 4 (zh z1) Er Ei rfl (by simp [zf hx1, zf hy1, zf Eh, zf ht1, z4, z5]) (zf Eh) fun _ Es => f_o <| c_p Es Ei (inv_go _ 1 h1f hM1 z1 Eh) fun _ _ Et Eu => f_o <| m_z 33 (zh (zd 4 0)) Et Eu fun _ _ Eb Ew Ex => f_o <| zQ 2 4 (zh (nd (zJ 1 (nv z1) (mF 1 - 2)))) _ Ew Ex rfl (zf (zl _ _)) (zf (zi)) (zt _) rfl fun _ _ Ey Eg => ?_
 refine f_e <| ze <| wp_seq <| zk <| d_k [1,2,3,8] [] 1 Ey fun _ Ez => f_o <| m_a 0 4 4 (zh y1) Ez Eg rfl (by simp [zf hx1, zf hy1, zf Eh, zf ht1, z4, z5]) (zf hy1) fun _ EA => f_o <| Zp 2 4 (zh (nd (zJ 1 (nv z1) (mF 1 - 2)))) EA Eg rfl (zf (zl _ _)) fun _ EB => f_o <| c_p EB Eg (emul_go _ y1 (nd (zJ 1 (nv z1) (mF 1 - 2))) hy1 (zl _ _)) fun _ _ EC ED => ?_
 refine f_o <| c_p EC ED (tole_go _ (nd (zr 1 (nv y1) (nv (nd (zJ 1 (nv z1) (mF 1 - 2)))))) (zl _ _)) fun _ _ EE EF => f_o <| m_z 22 (bys (zd 32 0)) EE EF fun _ _ Ea EG EH => f_o <| zQ 3 32 (bys (lb 32 (nv (nd (zr 1 (nv y1) (nv (nd (zJ 1 (nv z1) (mF 1 - 2))))))))) [.box Ee ((zh x1) ++ ((zh y1) ++ ((zh z1) ++ (zh t1)))) 37, .box Ef (bys (zd 32 0)) 22, .box Eb (zh (nd (zJ 1 (nv z1) (mF 1 - 2)))) 33, .box Ea (bys (lb 32 (nv (nd (zr 1 (nv y1) (nv (nd (zJ 1 (nv z1) (mF 1 - 2))))))))) 22] EG EH rfl (zH (zY _ _)) (zH (zi)) (bys_one _) rfl fun _ _ EI Ej => ?_
 refine f_e <| ze <| wp_seq <| r_c (fun ac wo => Env ac 26 [(1, pt Ee), (2, pt Ef), (3, pt Eb), (4, pt Ea)] ∧ Ev w [] wo [.box Ee ((zh x1) ++ ((zh y1) ++ ((zh z1) ++ (zh t1)))) 37, .box Ef (bys (zd 32 0)) 22, .box Eb (zh (nd (zJ 1 (nv z1) (mF 1 - 2)))) 33, .box Ea (bys (zp (lb 32 (nv (nd (zr 1 (nv y1) (nv (nd (zJ 1 (nv z1) (mF 1 - 2)))))))) 31 ((za (lb 32 (nv (nd (zr 1 (nv y1) (nv (nd (zJ 1 (nv z1) (mF 1 - 2)))))))) 31 0) ||| ((zj ((za (nd (zr 1 (nv x1) (nv (nd (zJ 1 (nv z1) (mF 1 - 2)))))) 0 0) &&& (1 : UInt64))) <<< zK 7)))) 22]) ?_ ?_
 ·
  refine s_g0 [(1, pt Ee), (2, pt Ef), (3, pt Eb), (4, pt Ea)] [0,1,2,3,4,5,6,7,8,9,10,11] [(13, .pointer (some ⟨Ea, 31, none⟩)), (14, bv (za (lb 32 (nv (nd (zr 1 (nv y1) (nv (nd (zJ 1 (nv z1) (mF 1 - 2)))))))) 31 0)), (15, pt Ee), (16, .agg (zg (zh x1))), (17, .agg (zg (zh (nd (zJ 1 (nv z1) (mF 1 - 2)))))), (18, .agg (zg (zh (nd (zr 1 (nv x1) (nv (nd (zJ 1 (nv z1) (mF 1 - 2))))))))), (19, zm (za (nd (zr 1 (nv x1) (nv (nd (zJ 1 (nv z1) (mF 1 - 2)))))) 0 0)), (20, zm ((za (nd (zr 1 (nv x1) (nv (nd (zJ 1 (nv z1) (mF 1 - 2)))))) 0 0) &&& (1 : UInt64))), (21, bv (zj ((za (nd (zr 1 (nv x1) (nv (nd (zJ 1 (nv z1) (mF 1 - 2)))))) 0 0) &&& (1 : UInt64)))), (22, bv ((zj ((za (nd (zr 1 (nv x1) (nv (nd (zJ 1 (nv z1) (mF 1 - 2)))))) 0 0) &&& (1 : UInt64))) <<< zK 7)), (23, bv ((za (lb 32 (nv (nd (zr 1 (nv y1) (nv (nd (zJ 1 (nv z1) (mF 1 - 2)))))))) 31 0) ||| ((zj ((za (nd (zr 1 (nv x1) (nv (nd (zJ 1 (nv z1) (mF 1 - 2)))))) 0 0) &&& (1 : UInt64))) <<< zK 7))), (24, .pointer (some ⟨Ea, 31, none⟩))] 1 [(1, pt Ee), (2, pt Ef), (3, pt Eb), (4, pt Ea), (23, bv ((za (lb 32 (nv (nd (zr 1 (nv y1) (nv (nd (zJ 1 (nv z1) (mF 1 - 2)))))))) 31 0) ||| ((zj ((za (nd (zr 1 (nv x1) (nv (nd (zJ 1 (nv z1) (mF 1 - 2)))))) 0 0) &&& (1 : UInt64))) <<< zK 7))), (24, .pointer (some ⟨Ea, 31, none⟩))] (EI.sb) (Ej.trans (zO Ej.heap)) ?_ fun _ _ EJ EK => ?_
  ·
   refine s_p [] ?_
   refine s_c (fun Mx60 _ _ EL Ek => ?_) ?_
   ·
    have EM : 31 < zb (lb 32 (nv (nd (zr 1 (nv y1) (nv (nd (zJ 1 (nv z1) (mF 1 - 2)))))))) := by rw [(zY _ _)]; omega
    refine m_v 3 31 (bv (za (lb 32 (nv (nd (zr 1 (nv y1) (nv (nd (zJ 1 (nv z1) (mF 1 - 2)))))))) 31 0)) EL Ek rfl (bys_getD EM) fun _ EN => ?_
    exact s_e EN Ek
   refine s_p [] ?_
   refine s_a 0 0 4 (zh x1) rfl (by simp [zf hx1, zf hy1, zf Eh, zf ht1, z4, z5]) (zf hx1) ?_
   refine s_a 2 0 4 (zh (nd (zJ 1 (nv z1) (mF 1 - 2)))) rfl (zq (zf (zl _ _))) (zf (zl _ _)) ?_
   refine s_f (fun _ => emul_go _ x1 (nd (zJ 1 (nv z1) (mF 1 - 2))) hx1 (zl _ _)) ?_
   have EO : 0 < zb (nd (zr 1 (nv x1) (nv (nd (zJ 1 (nv z1) (mF 1 - 2)))))) := by rw [(zl _ _)]; omega
   refine s_c (fun Mx88 _ _ EP EQ => ?_) ?_
   ·
    refine q_v (x := Instr.index 33 (.agg (zg (zh (nd (zr 1 (nv x1) (nv (nd (zJ 1 (nv z1) (mF 1 - 2))))))))) (.int .i64 0)) (v := zm (za (nd (zr 1 (nv x1) (nv (nd (zJ 1 (nv z1) (mF 1 - 2)))))) 0 0)) EP (Go.Dbr.run_indexval (e := 31) (m := 4) (cs := zh (nd (zr 1 (nv x1) (nv (nd (zJ 1 (nv z1) (mF 1 - 2))))))) (j := 0) (v := zm (za (nd (zr 1 (nv x1) (nv (nd (zJ 1 (nv z1) (mF 1 - 2)))))) 0 0)) (by kernel_rfl) (by kernel_rfl) (by kernel_rfl) (by omega) (by omega) (u64s_getD EO) _) fun _ ER => ?_
    exact s_e ER EQ
   refine s_p [(7, g_i .u64 (Go.Dbr.u64_and (x := za (nd (zr 1 (nv x1) (nv (nd (zJ 1 (nv z1) (mF 1 - 2)))))) 0 0) (y := (1 : UInt64)) rfl rfl))] ?_
   refine s_p [(8, g_i .u8 (Go.Dbr.u64_to_u8 (x := (za (nd (zr 1 (nv x1) (nv (nd (zJ 1 (nv z1) (mF 1 - 2)))))) 0 0) &&& (1 : UInt64)) rfl))] ?_
   refine s_p [(9, g_i .u8 (Go.Dbr.u8_shl (x := zj ((za (nd (zr 1 (nv x1) (nv (nd (zJ 1 (nv z1) (mF 1 - 2)))))) 0 0) &&& (1 : UInt64))) (n := 7) rfl (by decide)))] ?_
   refine s_p [(10, g_i .u8 (Go.Dbr.u8_or (x := za (lb 32 (nv (nd (zr 1 (nv y1) (nv (nd (zJ 1 (nv z1) (mF 1 - 2)))))))) 31 0) (y := (zj ((za (nd (zr 1 (nv x1) (nv (nd (zJ 1 (nv z1) (mF 1 - 2)))))) 0 0) &&& (1 : UInt64))) <<< zK 7) rfl rfl))] ?_
   refine s_p [] ?_
   exact s_n
  refine q_u 12 ?_
  have El : 31 < zb (lb 32 (nv (nd (zr 1 (nv y1) (nv (nd (zJ 1 (nv z1) (mF 1 - 2)))))))) := by rw [(zY _ _)]; omega
  refine m_t 3 31 (bv ((za (lb 32 (nv (nd (zr 1 (nv y1) (nv (nd (zJ 1 (nv z1) (mF 1 - 2)))))))) 31 0) ||| ((zj ((za (nd (zr 1 (nv x1) (nv (nd (zJ 1 (nv z1) (mF 1 - 2)))))) 0 0) &&& (1 : UInt64))) <<< zK 7))) _ EJ EK rfl (bys_getD El) (bys_set _ _ _) rfl fun _ _ Em En => ?_
  exact a_e ⟨Em.sb, En.pk [0, 1, 2, 3]⟩
 rintro _ _ ⟨Eo, Ec⟩
 refine ze <| wp_seq <| zk <| f_o <| Zp 3 32 (bys (zp (lb 32 (nv (nd (zr 1 (nv y1) (nv (nd (zJ 1 (nv z1) (mF 1 - 2)))))))) 31 ((za (lb 32 (nv (nd (zr 1 (nv y1) (nv (nd (zJ 1 (nv z1) (mF 1 - 2)))))))) 31 0) ||| ((zj ((za (nd (zr 1 (nv x1) (nv (nd (zJ 1 (nv z1) (mF 1 - 2)))))) 0 0) &&& (1 : UInt64))) <<< zK 7)))) Eo Ec rfl (zH (List.length_set.trans (zY _ _))) fun _ Ep => f_o <| zQ 1 32 (bys (zp (lb 32 (nv (nd (zr 1 (nv y1) (nv (nd (zJ 1 (nv z1) (mF 1 - 2)))))))) 31 ((za (lb 32 (nv (nd (zr 1 (nv y1) (nv (nd (zJ 1 (nv z1) (mF 1 - 2)))))))) 31 0) ||| ((zj ((za (nd (zr 1 (nv x1) (nv (nd (zJ 1 (nv z1) (mF 1 - 2)))))) 0 0) &&& (1 : UInt64))) <<< zK 7)))) [.box Ee ((zh x1) ++ ((zh y1) ++ ((zh z1) ++ (zh t1)))) 37, .box Ef (bys (zp (lb 32 (nv (nd (zr 1 (nv y1) (nv (nd (zJ 1 (nv z1) (mF 1 - 2)))))))) 31 ((za (lb 32 (nv (nd (zr 1 (nv y1) (nv (nd (zJ 1 (nv z1) (mF 1 - 2)))))))) 31 0) ||| ((zj ((za (nd (zr 1 (nv x1) (nv (nd (zJ 1 (nv z1) (mF 1 - 2)))))) 0 0) &&& (1 : UInt64))) <<< zK 7)))) 22, .box Eb (zh (nd (zJ 1 (nv z1) (mF 1 - 2)))) 33, .box Ea (bys (zp (lb 32 (nv (nd (zr 1 (nv y1) (nv (nd (zJ 1 (nv z1) (mF 1 - 2)))))))) 31 ((za (lb 32 (nv (nd (zr 1 (nv y1) (nv (nd (zJ 1 (nv z1) (mF 1 - 2)))))))) 31 0) ||| ((zj ((za (nd (zr 1 (nv x1) (nv (nd (zJ 1 (nv z1) (mF 1 - 2)))))) 0 0) &&& (1 : UInt64))) <<< zK 7)))) 22] Ep Ec rfl (zH (List.length_set.trans (zY _ _))) (zH (zi)) (bys_one _) rfl fun _ _ Eq Ed => f_e <| ze <| wp_ret <| z9 (v := .agg (zg (bys (zp (lb 32 (nv (nd (zr 1 (nv y1) (nv (nd (zJ 1 (nv z1) (mF 1 - 2)))))))) 31 ((za (lb 32 (nv (nd (zr 1 (nv y1) (nv (nd (zJ 1 (nv z1) (mF 1 - 2)))))))) 31 0) ||| ((zj ((za (nd (zr 1 (nv x1) (nv (nd (zJ 1 (nv z1) (mF 1 - 2)))))) 0 0) &&& (1 : UInt64))) <<< zK 7)))))) (t := 2) (T := 22) (ad := ⟨Ef, 0, none⟩) Eq (by kernel_rfl) (by kernel_rfl) (zB (t := 22) (k := 1) (off := 0) (m := 32) (xs := bys (zp (lb 32 (nv (nd (zr 1 (nv y1) (nv (nd (zJ 1 (nv z1) (mF 1 - 2)))))))) 31 ((za (lb 32 (nv (nd (zr 1 (nv y1) (nv (nd (zJ 1 (nv z1) (mF 1 - 2)))))))) 31 0) ||| ((zj ((za (nd (zr 1 (nv x1) (nv (nd (zJ 1 (nv z1) (mF 1 - 2)))))) 0 0) &&& (1 : UInt64))) <<< zK 7)))) Ed rfl (zq (zH (List.length_set.trans (zY _ _)))) (zH (List.length_set.trans (zY _ _))) (by kernel_rfl) (by kernel_rfl)) ?_
 have e0 : zp (lb 32 (nv (nd (zr 1 (nv y1) (nv (nd (zJ 1 (nv z1) (mF 1 - 2)))))))) 31 ((za (lb 32 (nv (nd (zr 1 (nv y1) (nv (nd (zJ 1 (nv z1) (mF 1 - 2)))))))) 31 0) ||| ((zj ((za (nd (zr 1 (nv x1) (nv (nd (zJ 1 (nv z1) (mF 1 - 2)))))) 0 0) &&& (1 : UInt64))) <<< zK 7)) = outN (zr 1 (nv x1) (ivE (nv z1))) (zr 1 (nv y1) (ivE (nv z1))) := by
  simp only [nv_m1, nv_iv, odd_of, outN]
 exact ⟨congrArg (fun l : List UInt8 => Ending.returned (Value.agg (bys l).toArray)) e0, Ed.pk []⟩
theorem bytes16_go (w : World) (p : L4) (hp : p.length = 16) : Calls Tryz.prog 15 #[.agg (zg (zh p))] w fun e w' => e = .returned (.agg (zg (bys (outN (zr 1 (k1 p) (ivE (k3 p))) (zr 1 (k2 p) (ivE (k3 p))))))) ∧ Ev w [] w' [] := by
  have h := bytes_go w (p.take 4) ((p.drop 4).take 4) ((p.drop 8).take 4) (p.drop 12) (by simp [hp]) (by simp [hp]) (by simp [hp]) (by simp [hp]) 
  rw [cut16] at h
  exact h
end Go.Proofs.YtlnogkmnklfjlaaGreatDoor
