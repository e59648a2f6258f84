import Derived.Test.YtpfhmbbiadpbeaaGreatVp1
import Derived.Laws.Externs
import Derived.OrdersHeld
open Go.Dbr renaming u64s_lenh → za, then_normal → ze, u64s → zg, region_from → zj, uv64 → zm, load_whole → zn, u64s_one → zq, run_indexarr → zs, block_normal → zw, then_exit → zF, u64s_getD → zO, block_exit → zX, loop_once → z8, u64_add → Zj, run_load1 → Zt, u64_and → Zy, u64_shr → ZC, cond_at → Ql, look → QB, opAt → QC, u64_mul → QK, putl → QQ, loop_enter → Ym, From → Xa, run_nv → Xf, opRuns → Xg
open List renaming getD → zb, toArray → zc, replicate → zd, length → zf, length_replicate → zh, set → zt, length_cons → zL, getD_eq_getElem?_getD → zT, getElem?_eq_getElem → z3, all_eq_true → z7, contains_iff_mem → Zl, map_append → Qk, mem_range → QH, getD_cons_succ → QM, getElem?_cons_zero → QY, range → Q3, getElem?_cons_succ → Ys, mem_filter → XG, filterMap_cons → XZ
open UInt64 renaming ofNat → zi, toNat → zk, toNat_add → ZD, toNat_inj → Qy, toNat_mul → Yr, toNat_sub → Kh
open Go.Proofs.Tryz renaming prog → zB
open Go.Dbr.Ev renaming cellAgg → zC, drew → zN
open Bool renaming and_eq_true → zJ, not_eq_true' → QD
open Nat renaming mod_eq_of_lt → zQ, mul_comm → Zf, pow_succ → Zh, mul_assoc → Zq, add_mul → ZE, add_zero → ZP, add_assoc → ZX, lt_or_ge → Qa, beq → Qn, mul_add → Qp, mul_le_mul → QI, mul_left_comm → Jt, zero_le → XP
open Array renaming getElem?_setIfInBounds_ne → Zm, replicate → YE, setIfInBounds_comm → Jc, getElem?_eq_none → Js
open Option renaming getD_some → JB
open BitVec renaming toNat_ofNat → J6, ofNat → Kd
set_option maxRecDepth 100000
set_option maxHeartbeats 2000000
set_option linter.unusedVariables false
set_option linter.unusedSimpArgs false
namespace Go.Dbr
open Go Go.RowKit
def dv (B : Nat) : List UInt64 → Nat
  | [] => 0
  | x :: r => x.toNat + B * dv B r
theorem dv_cons (B : Nat) (x : UInt64) (r : List UInt64) : dv B (x :: r) = x.toNat + B * dv B r := rfl
theorem dv_replicate (B n : Nat) : dv B (zd n 0) = 0 := by
  induction n with
  | zero => rfl
  | succ n ih => rw [List.replicate_succ, dv_cons, ih]; rfl
theorem dv_set (B : Nat) (x : UInt64) : ∀ (l : List UInt64) (j : Nat), j < l.length → dv B (l.set j x) + (l.getD j 0).toNat * B ^ j = dv B l + x.toNat * B ^ j
  | [], j, h => by simp at h
  | y :: r, 0, h => by simp [dv_cons, zb]; omega
  | y :: r, j + 1, h => by
    have ih := dv_set B x r j (by simpa using h)
    rw [List.set_cons_succ, dv_cons, dv_cons, QM, Zh]
    have e1 : (r.getD j 0).toNat * (B ^ j * B) = B * ((r.getD j 0).toNat * B ^ j) := by rw [← Zq, Zf]
    have e2 : x.toNat * (B ^ j * B) = B * (x.toNat * B ^ j) := by rw [← Zq, Zf]
    rw [e1, e2, ZX, ← Qp, ih, Qp, ZX]
def addLo (x y c : UInt64) : UInt64 := x + y + c
def addHi (x y c : UInt64) : UInt64 := zi ((x.toNat + y.toNat + c.toNat) / 18446744073709551616)
theorem lt64 (x : UInt64) : x.toNat < 18446744073709551616 := x.toNat_lt
theorem ofNat_toNat {n : Nat} (h : n < 18446744073709551616) : (zi n).toNat = n := by
  show (Kd 64 n).toNat = n
  rw [J6]
  exact zQ h
theorem addHi_val {x y c : UInt64} : (addHi x y c).toNat = (x.toNat + y.toNat + c.toNat) / 18446744073709551616 := by
  have := lt64 x; have := lt64 y; have := lt64 c
  exact ofNat_toNat (by omega)
theorem addLo_val {x y c : UInt64} : (addLo x y c).toNat = (x.toNat + y.toNat + c.toNat) % 18446744073709551616 := by
  unfold addLo
  rw [ZD, ZD]
  omega
theorem addHi_le {x y c : UInt64} (h : c.toNat ≤ 1) : (addHi x y c).toNat ≤ 1 := by
  have := lt64 x; have := lt64 y
  rw [addHi_val]
  omega
theorem add_val {x y c : UInt64} : (addLo x y c).toNat + 18446744073709551616 * (addHi x y c).toNat = x.toNat + y.toNat + c.toNat := by
  rw [addHi_val, addLo_val]
  omega
theorem run_add64u {P : Program} (x y c : UInt64) (h : c.toNat ≤ 1) (w : World) : (add64Entry #[zm x, zm y, zm c]).run P w = .ok (.tuple #[zm (addLo x y c), zm (addHi x y c)]) w := by
  rw [show (#[zm x, zm y, zm c] : Array Value) = #[.int .u64 ((x.toNat : Nat) : Int), .int .u64 ((y.toNat : Nat) : Int), .int .u64 ((c.toNat : Nat) : Int)] from rfl, run_add64 _ _ _ (by omega) (by omega) (by omega) (by omega)]
  simp only [zm]
  rw [addHi_val, addLo_val]
  congr 4
theorem ext_add64 {P : Program} {f : FuncId} {fn : Func} (hf : P.funcs[f]? = some fn) (hname : (fn.name == "runtime.NumGoroutine") = false) (hb : fn.body.isNone = true) (hn : Extern.findNext fn = none) (he : Extern.find fn = some add64Entry)
    (x y c : UInt64) (h : c.toNat ≤ 1) (w : World) : (callFunc f #[zm x, zm y, zm c]).run P w = .ok (.value (.tuple #[zm (addLo x y c), zm (addHi x y c)])) w := by
  rw [run_callFunc_extern hf hname hb hn he, run_add64u x y c h]
  rfl
section
variable {P : Program} {ops : Array Oper} {Q : Exit → Act → World → Prop} {n i : Nat} {l : List (Nat × Value)} {a : Act} {w : World} {d : Option Tmp} {K : Act → World → Prop}
theorem op_ext (E : Env a n l) {f : FuncId} {args : Array Value} {v : Value} (h : Xg P ops n i l = some (d, fun w => (callFunc f args).run P w)) (hr : ∀ w, (callFunc f args).run P w = .ok (.value v) w)
    (next : ∀ a', Env a' n (QQ d v l) → K a' w) : wpOp P ops Q i K a w := by
  obtain ⟨s, hs, h2⟩ := opRuns_spec h
  exact any_run E hs ((h2 w).trans (hr w)) next
end
def mulHi (x y : UInt64) : UInt64 := zi (x.toNat * y.toNat / 18446744073709551616)
theorem mul_lt (x y : UInt64) : x.toNat * y.toNat ≤ 18446744073709551615 * 18446744073709551615 :=
  QI (by have := lt64 x; omega) (by have := lt64 y; omega)
theorem mulHi_val {x y : UInt64} : (mulHi x y).toNat = x.toNat * y.toNat / 18446744073709551616 := by
  have := mul_lt x y
  exact ofNat_toNat (by omega)
theorem mul_val {x y : UInt64} : (x * y).toNat + 18446744073709551616 * (mulHi x y).toNat = x.toNat * y.toNat := by
  rw [mulHi_val, Yr]
  exact Nat.mod_add_div _ _
theorem and_low {x : UInt64} : (x &&& 4294967295).toNat = x.toNat % 4294967296 := by
  rw [UInt64.toNat_and]
  show x.toNat &&& 4294967295 = _
  rw [show (4294967295 : Nat) = 2 ^ 32 - 1 from rfl, Nat.and_two_pow_sub_one_eq_mod]
theorem shr_high {x : UInt64} : (x >>> zi 32).toNat = x.toNat / 4294967296 := by
  rw [UInt64.toNat_shiftRight]
  show x.toNat >>> (32 % 64) = _
  rw [Nat.shiftRight_eq_div_pow]
theorem mul_high (x y : UInt64) :
    (x >>> zi 32) * (y >>> zi 32) + (((x >>> zi 32) * (y &&& 4294967295) + ((x &&& 4294967295) * (y &&& 4294967295)) >>> zi 32) >>> zi 32) + ((((x >>> zi 32) * (y &&& 4294967295) + ((x &&& 4294967295) * (y &&& 4294967295)) >>> zi 32) &&& 4294967295) + (x &&& 4294967295) * (y >>> zi 32)) >>> zi 32 = mulHi x y := by
  apply Qy.1
  have hx := lt64 x
  have hy := lt64 y
  rw [mulHi_val]
  simp only [ZD, Yr, and_low, shr_high]
  generalize hx0 : x.toNat % 4294967296 = x0
  generalize hx1 : x.toNat / 4294967296 = x1
  generalize hy0 : y.toNat % 4294967296 = y0
  generalize hy1 : y.toNat / 4294967296 = y1
  have ex : x.toNat = x0 + 4294967296 * x1 := by omega
  have ey : y.toNat = y0 + 4294967296 * y1 := by omega
  have b1 : x0 * y0 ≤ 4294967295 * 4294967295 := QI (by omega) (by omega)
  have b2 : x1 * y0 ≤ 4294967295 * 4294967295 := QI (by omega) (by omega)
  have b3 : x0 * y1 ≤ 4294967295 * 4294967295 := QI (by omega) (by omega)
  have b4 : x1 * y1 ≤ 4294967295 * 4294967295 := QI (by omega) (by omega)
  have e : x.toNat * y.toNat = x0 * y0 + 4294967296 * (x1 * y0) + 4294967296 * (x0 * y1) + 18446744073709551616 * (x1 * y1) := by
    rw [ex, ey, ZE, Qp, Qp]
    have q1 : x0 * (4294967296 * y1) = 4294967296 * (x0 * y1) := Jt _ _ _
    have q2 : 4294967296 * x1 * y0 = 4294967296 * (x1 * y0) := Zq _ _ _
    have q3 : 4294967296 * x1 * (4294967296 * y1) = 18446744073709551616 * (x1 * y1) := by rw [Zq, Jt x1, ← Zq]
    rw [q1, q2, q3]
    omega
  rw [e]
  generalize x0 * y0 = a at *
  generalize x1 * y0 = b at *
  generalize x0 * y1 = c at *
  generalize x1 * y1 = d at *
  omega
def sub64Entry : Array Value → Sem Value := fun args => do
  let (x, y, b) ← Extern.MathBitsCarry.three "Sub64" args
  pure (Extern.MathBitsCarry.pair ((x + Extern.MathBitsCarry.m64 - y - b) % Extern.MathBitsCarry.m64) (if x < y + b then 1 else 0))
def subLo (x y c : UInt64) : UInt64 := x - y - c
def subHi (x y c : UInt64) : UInt64 := if x.toNat < y.toNat + c.toNat then 1 else 0
theorem subHi_le {x y c : UInt64} : (subHi x y c).toNat ≤ 1 := by unfold subHi; split <;> decide
theorem subHi_val {x y c : UInt64} : (subHi x y c).toNat = if x.toNat < y.toNat + c.toNat then 1 else 0 := by unfold subHi; split <;> rfl
theorem subLo_val {x y c : UInt64} (h : c.toNat ≤ 1) : (subLo x y c).toNat = (x.toNat + 18446744073709551616 - y.toNat - c.toNat) % 18446744073709551616 := by
  have := lt64 x; have := lt64 y
  unfold subLo
  rw [Kh, Kh]
  omega
theorem sub_val {x y c : UInt64} (h : c.toNat ≤ 1) : (subLo x y c).toNat + y.toNat + c.toNat = x.toNat + 18446744073709551616 * (subHi x y c).toNat := by
  have := lt64 x; have := lt64 y
  rw [subLo_val h, subHi_val]
  split <;> omega
theorem run_sub64 {P : Program} (x y c : Nat) (hc : c ≤ 1) (w : World) : (sub64Entry #[.int .u64 (x : Int), .int .u64 (y : Int), .int .u64 (c : Int)]).run P w = .ok (.tuple #[.int .u64 (((x + 18446744073709551616 - y - c) % 18446744073709551616 : Nat) : Int), .int .u64 ((if x < y + c then 1 else 0 : Nat) : Int)]) w := by
  have : c = 0 ∨ c = 1 := by omega
  rcases this with rfl | rfl <;> rfl
theorem run_sub64u {P : Program} (x y c : UInt64) (h : c.toNat ≤ 1) (w : World) : (sub64Entry #[zm x, zm y, zm c]).run P w = .ok (.tuple #[zm (subLo x y c), zm (subHi x y c)]) w := by
  rw [show (#[zm x, zm y, zm c] : Array Value) = #[.int .u64 ((x.toNat : Nat) : Int), .int .u64 ((y.toNat : Nat) : Int), .int .u64 ((c.toNat : Nat) : Int)] from rfl, run_sub64 _ _ _ h]
  simp only [zm]
  rw [subHi_val, subLo_val h]
theorem ext_sub64 {P : Program} {f : FuncId} {fn : Func} (hf : P.funcs[f]? = some fn) (hname : (fn.name == "runtime.NumGoroutine") = false) (hb : fn.body.isNone = true) (hn : Extern.findNext fn = none) (he : Extern.find fn = some sub64Entry)
    (x y c : UInt64) (h : c.toNat ≤ 1) (w : World) : (callFunc f #[zm x, zm y, zm c]).run P w = .ok (.value (.tuple #[zm (subLo x y c), zm (subHi x y c)])) w := by
  rw [run_callFunc_extern hf hname hb hn he, run_sub64u x y c h]
  rfl
end Go.Dbr
namespace Go.Dbr
open Go Go.RowKit
section
variable {P : Program}
variable {ops : Array Oper} {Q : Exit → Act → World → Prop} {n i : Nat} {l : List (Nat × Value)} {a : Act} {w w0 : World} {L L0 : List Ent} {d : Option Tmp} {K : Act → World → Prop}
theorem run_toarr {t e : TypeId} {m : Nat} (hu : P.underlying t = some (.array m e)) {ad : Addr} {p c : Nat} (h : m ≤ p) (w : World) : (Instr.arrayAt t (.slice (some ad) p c)).run P w = .ok (.pointer (some ad)) w := by
  unfold Instr.arrayAt
  simp [run_underlying hu, Nat.not_lt.2 h]
end
end Go.Dbr
namespace Go.Dbr
open Go Go.RowKit
section
variable {P : Program} {ops : Array Oper} {Q : Exit → Act → World → Prop} {n i : Nat} {l : List (Nat × Value)} {a : Act} {w w0 : World} {L L0 : List Ent} {d : Option Tmp} {K : Act → World → Prop}
end
end Go.Dbr
namespace Go.Dbr
open Go Go.RowKit
section
variable {P : Program} {ops : Array Oper} {Q : Exit → Act → World → Prop} {S : World → Prop} {St : List Nat}
def wpAnyS (P : Program) (ops : Array Oper) (Q : Exit → Act → World → Prop) (S : World → Prop) (St : List Nat) : Nat → Array Bool → Act → World → Prop
  | 0, listed, a, w => Region.ready .any ops listed = [] ∧ Q .normal a w
  | m + 1, listed, a, w =>
    (Region.ready .any ops listed = [] → Q .normal a w) ∧
    ∀ i ∈ Region.ready .any ops listed, wpOp P ops Q i (fun a' w' => ((St.all fun s => !(listed.setIfInBounds i true).getD s true) = true → S w') ∧ wpAnyS P ops Q S St m (listed.setIfInBounds i true) a' w') a w
theorem wpAny_of_S : ∀ (m : Nat) (listed : Array Bool) (a : Act) (w : World), wpAnyS P ops Q S St m listed a w → wpAny P .any ops Q m listed a w
  | 0, _, _, _, h => h
  | m + 1, _, _, _, h => ⟨h.1, fun i hi => wpOp_mono (fun a' w' h' => wpAny_of_S m _ a' w' h'.2) (h.2 i hi)⟩
def waitsGo (ops : Array Oper) (i : Nat) : List Nat → List Nat → List Nat
  | [], R => R
  | j :: r, R => waitsGo ops i r (match ops[j]? with
    | some o => bif o.after.any (fun e => Region.binds .any e && (Qn e.on i || R.contains e.on)) then j :: R else R
    | none => R)
def waits (ops : Array Oper) (i s : Nat) : Bool := (waitsGo ops i (Q3 ops.size) []).contains s
inductive WaitsT (ops : Array Oper) (i : Nat) : Nat → Prop
  | one {s : Nat} {o : Oper} {e : Edge} (ho : ops[s]? = some o) (he : e ∈ o.after) (hb : Region.binds .any e = true) (hi : e.on = i) : WaitsT ops i s
  | step {s : Nat} {o : Oper} {e : Edge} (ho : ops[s]? = some o) (he : e ∈ o.after) (hb : Region.binds .any e = true) (h : WaitsT ops i e.on) : WaitsT ops i s
theorem waitsGo_spec {ops : Array Oper} {i : Nat} : ∀ (js R : List Nat), (∀ s ∈ R, WaitsT ops i s) → ∀ s ∈ waitsGo ops i js R, WaitsT ops i s
  | [], R, h => h
  | j :: r, R, h => by
    refine waitsGo_spec r _ ?_
    cases ho : ops[j]? with
    | none => exact h
    | some o =>
      simp only
      cases hc : o.after.any (fun e => Region.binds .any e && (Qn e.on i || R.contains e.on)) with
      | false => exact h
      | true =>
        intro s hs
        rcases List.mem_cons.1 hs with rfl | hs
        · obtain ⟨e, he, hb⟩ := Array.any_eq_true'.1 hc
          simp only [zJ, Bool.or_eq_true] at hb
          rcases hb.2 with hi | hr
          · exact .one ho he hb.1 (Nat.eq_of_beq_eq_true hi)
          · exact .step ho he hb.1 (h _ (Zl.1 hr))
        · exact h s hs
theorem waits_spec {ops : Array Oper} {i s : Nat} (h : waits ops i s = true) : WaitsT ops i s := waitsGo_spec _ [] (fun _ h => by cases h) s (Zl.1 h)
def Closed (ops : Array Oper) (listed : Array Bool) : Prop := ∀ (j : Nat) (o : Oper), ops[j]? = some o → listed.getD j false = true → ∀ e ∈ o.after, Region.binds .any e = true → listed.getD e.on false = true
def closedB (ops : Array Oper) (listed : Array Bool) : Bool := (Q3 ops.size).all fun j => !listed.getD j false || match ops[j]? with
  | some o => o.after.all fun e => !Region.binds .any e || listed.getD e.on false
  | none => true
theorem closed_of {ops : Array Oper} {listed : Array Bool} (h : closedB ops listed = true) : Closed ops listed := by
  intro j o ho hj e he hb
  have h1 := z7.1 h j (QH.2 (Array.getElem?_eq_some_iff.1 ho).1)
  rw [hj, ho] at h1
  simp only [Bool.not_true, Bool.false_or] at h1
  have h2 := (Array.all_eq_true_iff_forall_mem.1 h1) e he
  rw [hb] at h2
  simpa using h2
theorem getD_set_true {listed : Array Bool} {j k : Nat} (h : listed.getD k false = true) : (listed.setIfInBounds j true).getD k false = true := by
  by_cases e : j = k
  · subst e
    rcases Qa j listed.size with h' | h'
    · simp [h']
    · simp [h'] at h
  · simp [Zm e] at h ⊢
    exact h
theorem Closed.set {ops : Array Oper} {listed : Array Bool} (h : Closed ops listed) {j : Nat} (hj : j ∈ Region.ready .any ops listed) : Closed ops (listed.setIfInBounds j true) := by
  intro k o ho hk e he hb
  obtain ⟨_, oj, hoj, hall⟩ := mem_ready.1 hj
  by_cases ekj : k = j
  · subst ekj
    rw [hoj] at ho
    cases ho
    exact getD_set_true (hall e he hb)
  · refine getD_set_true (h k o ho ?_ e he hb)
    simp [Zm (Ne.symm ekj)] at hk ⊢
    exact hk
theorem WaitsT.no {ops : Array Oper} {listed : Array Bool} {i : Nat} (hc : Closed ops listed) {s : Nat} (h : WaitsT ops i s) : ∀ o, ops[s]? = some o → (∀ e ∈ o.after, Region.binds .any e = true → listed.getD e.on false = true) → listed.getD i false = true := by
  induction h with
  | one ho he hb hi =>
    intro o ho' hall
    rw [ho] at ho'
    cases ho'
    rw [← hi]
    exact hall _ he hb
  | step ho he hb h ih =>
    intro o ho' hall
    rw [ho] at ho'
    cases ho'
    have h1 := hall _ he hb
    cases h with
    | one ho2 Ea Eb hi2 => exact ih _ ho2 fun e he hb => hc _ _ ho2 h1 e he hb
    | step ho2 Ea Eb h2 => exact ih _ ho2 fun e he hb => hc _ _ ho2 h1 e he hb
theorem getD_set_keep {listed : Array Bool} {j s : Nat} (h : j ≠ s) : (listed.setIfInBounds j true).getD s true = listed.getD s true := getD_set_ne true h
theorem wpAnyS_take {i : Nat} {oi : Oper} {v : Value} (hi : ops[i]? = some oi) (hsel : Region.noSelect ops = true) (hQ : ∀ c a w, Q (.panic c) (a.put oi.dst v) w → Q (.panic c) a w)
    (hw : (St.all fun s => waits ops i s && s != i) = true) :
    ∀ (m : Nat) (listed : Array Bool) (a : Act) (w : World), Closed ops listed → (∀ j oj, ops[j]? = some oj → j ≠ i → listed.getD j true = false → (∀ e ∈ oj.after, Region.binds .any e = true → e.on ≠ i) → oi.apart ops oj = true) →
      i ∈ Region.ready .any ops listed → (St.all fun s => !listed.getD s true) = true → YieldsIf P ops S oi v a → S w →
      wpAnyS P ops Q S St m (listed.setIfInBounds i true) (a.put oi.dst v) w → wpAnyS P ops Q S St (m + 1) listed a w := by
  have hsi := Region.noSelect_spec hsel i oi
  intro m
  induction m with
  | zero =>
    intro listed a w hcl _ hr hst hy hS H
    refine ⟨fun h => (by rw [h] at hr; cases hr), fun j hj => ?_⟩
    by_cases hji : j = i
    · subst hji
      exact hy.wpOp hi hS ⟨fun _ => hS, H⟩
    · have h2 := ready_mono hj hji
      rw [H.1] at h2
      cases h2
  | succ m ih =>
    intro listed a w hcl hfree hr hst hy hS H
    refine ⟨fun h => (by rw [h] at hr; cases hr), fun j hj => ?_⟩
    by_cases hji : j = i
    · subst hji
      exact hy.wpOp hi hS ⟨fun _ => hS, H⟩
    · have h1 := H.2 j (ready_mono hj hji)
      obtain ⟨hjun, oj, hoj, hall⟩ := mem_ready.1 hj
      have hnot : ∀ e ∈ oj.after, Region.binds .any e = true → e.on ≠ i := fun e he hb heq => by
        have g1 := hall e he hb
        have g0 := (mem_ready.1 hr).1
        rw [heq] at g1
        rcases Qa i listed.size with h' | h'
        · simp [h'] at g0 g1
          rw [g0] at g1
          cases g1
        · simp [Js h'] at g1
      have hjs : ∀ s ∈ St, j ≠ s := fun s hs e => by
        subst e
        have := z7.1 hw j hs
        simp only [zJ] at this
        have h0 := (waits_spec this.1).no hcl oj hoj hall
        have g0 := (mem_ready.1 hr).1
        rcases Qa i listed.size with h' | h'
        · simp [h'] at g0 h0
          rw [g0] at h0
          cases h0
        · simp [h'] at h0
      have his : ∀ s ∈ St, i ≠ s := fun s hs e => by
        subst e
        have := z7.1 hw i hs
        simp at this
      have hst' : (St.all fun s => !(listed.setIfInBounds j true).getD s true) = true := z7.2 fun s hs => by
        rw [getD_set_keep (hjs s hs)]
        exact z7.1 hst s hs
      have hst2 : (St.all fun s => !((listed.setIfInBounds i true).setIfInBounds j true).getD s true) = true := z7.2 fun s hs => by
        rw [getD_set_keep (hjs s hs), getD_set_keep (his s hs)]
        exact z7.1 hst s hs
      have h2 := wpOp_putIf hoj (hfree j oj hoj hji hjun hnot) (fun cs b => Region.noSelect_spec hsel i oi cs b hi) (fun cs b => Region.noSelect_spec hsel j oj cs b hoj) hQ hy h1
      have hfree' : ∀ k ok, ops[k]? = some ok → k ≠ i → (listed.setIfInBounds j true).getD k true = false → (∀ e ∈ ok.after, Region.binds .any e = true → e.on ≠ i) → oi.apart ops ok = true := fun k ok hk hki hun hno => by
        refine hfree k ok hk hki ?_ hno
        by_cases hjk : j = k
        · subst hjk
          exact hjun
        · rwa [getD_set_ne true hjk] at hun
      refine wpOp_mono (fun a' w' h3 => ?_) h2
      have hS' : S w' := h3.2.1 hst2
      refine ⟨fun _ => hS', ih (listed.setIfInBounds j true) a' w' (hcl.set hj) hfree' (ready_mono hr (Ne.symm hji)) hst' h3.1 hS' ?_⟩
      rw [Jc _ _ hji]
      exact h3.2.2
theorem wpAnyS_pure {i : Nat} {oi : Oper} {v : Value} (hi : ops[i]? = some oi) (hsel : Region.noSelect ops = true) (hQ : ∀ c a w, Q (.panic c) (a.put oi.dst v) w → Q (.panic c) a w)
    (hw : (St.all fun s => s != i) = true) :
    ∀ (m : Nat) (listed : Array Bool) (a : Act) (w : World), (∀ j oj, ops[j]? = some oj → j ≠ i → listed.getD j true = false → (∀ e ∈ oj.after, Region.binds .any e = true → e.on ≠ i) → oi.apart ops oj = true) →
      i ∈ Region.ready .any ops listed → YieldsIf P ops (fun _ => True) oi v a → ((St.all fun s => !listed.getD s true) = true → S w) →
      wpAnyS P ops Q S St m (listed.setIfInBounds i true) (a.put oi.dst v) w → wpAnyS P ops Q S St (m + 1) listed a w := by
  have ne : ∀ s ∈ St, i ≠ s := fun s hs e => by
    subst e
    have := z7.1 hw i hs
    simp at this
  have keep : ∀ (listed : Array Bool), (St.all fun s => !(listed.setIfInBounds i true).getD s true) = true → (St.all fun s => !listed.getD s true) = true := fun listed h => z7.2 fun s hs => by
    have := z7.1 h s hs
    rwa [getD_set_keep (ne s hs)] at this
  have back : ∀ (listed : Array Bool), (St.all fun s => !listed.getD s true) = true → (St.all fun s => !(listed.setIfInBounds i true).getD s true) = true := fun listed h => z7.2 fun s hs => by
    rw [getD_set_keep (ne s hs)]
    exact z7.1 h s hs
  intro m
  induction m with
  | zero =>
    intro listed a w _ hr hy hS H
    refine ⟨fun h => (by rw [h] at hr; cases hr), fun j hj => ?_⟩
    by_cases hji : j = i
    · subst hji
      exact hy.wpOp hi trivial ⟨fun h => hS (keep listed h), H⟩
    · have h2 := ready_mono hj hji
      rw [H.1] at h2
      cases h2
  | succ m ih =>
    intro listed a w hfree hr hy hS H
    refine ⟨fun h => (by rw [h] at hr; cases hr), fun j hj => ?_⟩
    by_cases hji : j = i
    · subst hji
      exact hy.wpOp hi trivial ⟨fun h => hS (keep listed h), H⟩
    · have h1 := H.2 j (ready_mono hj hji)
      obtain ⟨hjun, oj, hoj, hall⟩ := mem_ready.1 hj
      have hnot : ∀ e ∈ oj.after, Region.binds .any e = true → e.on ≠ i := fun e he hb heq => by
        have g1 := hall e he hb
        have g0 := (mem_ready.1 hr).1
        rw [heq] at g1
        rcases Qa i listed.size with h' | h'
        · simp [h'] at g0 g1
          rw [g0] at g1
          cases g1
        · simp [Js h'] at g1
      have h2 := wpOp_putIf hoj (hfree j oj hoj hji hjun hnot) (fun cs b => Region.noSelect_spec hsel i oi cs b hi) (fun cs b => Region.noSelect_spec hsel j oj cs b hoj) hQ hy h1
      have hfree' : ∀ k ok, ops[k]? = some ok → k ≠ i → (listed.setIfInBounds j true).getD k true = false → (∀ e ∈ ok.after, Region.binds .any e = true → e.on ≠ i) → oi.apart ops ok = true := fun k ok hk hki hun hno => by
        refine hfree k ok hk hki ?_ hno
        by_cases hjk : j = k
        · subst hjk
          exact hjun
        · rwa [getD_set_ne true hjk] at hun
      refine wpOp_mono (fun a' w' h3 => ?_) h2
      have hS' : (St.all fun s => !(listed.setIfInBounds j true).getD s true) = true → S w' := fun h => h3.2.1 (by
        rw [Jc _ _ (Ne.symm hji)]
        exact back _ h)
      refine ⟨hS', ih (listed.setIfInBounds j true) a' w' hfree' (ready_mono hr (Ne.symm hji)) h3.1 hS' ?_⟩
      rw [Jc _ _ hji]
      exact h3.2.2
theorem not_yet {b : Bool} {p : Prop} (h : b = false) : b = true → p := fun h' => by rw [h] at h'; cases h'
variable {n i : Nat} {l : List (Nat × Value)} {a : Act} {w w0 : World} {d : Option Tmp} {L L0 : List Ent}
abbrev HQ (F : Act → World → Prop) : Exit → Act → World → Prop := fun e a w => e = .normal ∧ F a w
theorem h_start {F : Act → World → Prop} {id : Nat} (S : World → Prop) (St : List Nat) (hm : P.follows .mixedOrders = true) (m : Nat) (hs : ops.size = m)
    (h : wpAnyS P ops (fun e a w => e = .normal ∧ F a w) S St m (YE m false) a w.drew) :
    (Code.region id ops true).wp P (fun e a w => e = .normal ∧ F a w) a w :=
  draw_any hm m hs (wpAny_of_S _ _ _ _ h)
theorem h_end {F : Act → World → Prop} {m : Nat} {listed : Array Bool} (hr : Region.ready .any ops listed = []) (h : F a w) : wpAnyS P ops (fun e a w => e = .normal ∧ F a w) S St m listed a w := by
  cases m with
  | zero => exact ⟨hr, rfl, h⟩
  | succ m => exact ⟨fun _ => ⟨rfl, h⟩, fun i hi => by rw [hr] at hi; cases hi⟩
theorem h_read {F : Act → World → Prop} {m : Nat} {listed listed' : Array Bool} (E : Env a n l) {s : Sem Next} {v : Value} (i : Nat)
    (hr : QC ops n i l = some (.run d s)) (hv : ∀ w, S w → s.run P w = .ok (.value v) w)
    (hc : (Region.noSelect ops && Region.free .any ops listed i && (Region.ready .any ops listed).contains i && (St.all fun s => waits ops i s && s != i) && (St.all fun s => !listed.getD s true) && closedB ops listed) = true) (hl : listed.setIfInBounds i true = listed') (hS : S w)
    (next : ∀ a', Env a' n (QQ d v l) → wpAnyS P ops (fun e a w => e = .normal ∧ F a w) S St m listed' a' w) :
    wpAnyS P ops (fun e a w => e = .normal ∧ F a w) S St (m + 1) listed a w := by
  obtain ⟨o, ho, hw, rfl, hs, hf, _⟩ := opAt_run E hr
  simp only [zJ] at hc
  subst hl
  exact wpAnyS_take ho hc.1.1.1.1.1 (fun _ _ _ h => by cases h.1) hc.1.1.2 m listed a w (closed_of hc.2) (Region.free_spec ho hc.1.1.1.1.2) (by simpa using hc.1.1.1.2) hc.1.2 (.inl ⟨hw, fun w hS => by rw [hs]; exact hv w hS⟩) hS (next _ (E.put v hf))
theorem h_free {F : Act → World → Prop} {m : Nat} {listed listed' : Array Bool} (E : Env a n l) {s : Sem Next} {v : Value} (i : Nat)
    (hr : QC ops n i l = some (.run d s)) (hv : ∀ w, s.run P w = .ok (.value v) w)
    (hc : (Region.noSelect ops && Region.free .any ops listed i && (Region.ready .any ops listed).contains i && (St.all fun s => s != i)) = true) (hl : listed.setIfInBounds i true = listed') (hS : (St.all fun s => !listed.getD s true) = true → S w)
    (next : ∀ a', Env a' n (QQ d v l) → wpAnyS P ops (fun e a w => e = .normal ∧ F a w) S St m listed' a' w) :
    wpAnyS P ops (fun e a w => e = .normal ∧ F a w) S St (m + 1) listed a w := by
  obtain ⟨o, ho, hw, rfl, hs, hf, _⟩ := opAt_run E hr
  simp only [zJ] at hc
  subst hl
  exact wpAnyS_pure ho hc.1.1.1 (fun _ _ _ h => by cases h.1) hc.2 m listed a w (Region.free_spec ho hc.1.1.2) (by simpa using hc.1.2) (.inl ⟨hw, fun w _ => by rw [hs]; exact hv w⟩) hS (next _ (E.put v hf))
theorem h_skip {F : Act → World → Prop} {m : Nat} {listed listed' : Array Bool} (E : Env a n l) (i : Nat)
    (hr : QC ops n i l = some (.skip d))
    (hc : (Region.noSelect ops && Region.free .any ops listed i && (Region.ready .any ops listed).contains i && (St.all fun s => s != i)) = true) (hl : listed.setIfInBounds i true = listed') (hS : (St.all fun s => !listed.getD s true) = true → S w)
    (next : ∀ a', Env a' n (QQ d undef l) → wpAnyS P ops (fun e a w => e = .normal ∧ F a w) S St m listed' a' w) :
    wpAnyS P ops (fun e a w => e = .normal ∧ F a w) S St (m + 1) listed a w := by
  obtain ⟨o, ho, hw, rfl, hf⟩ := opAt_skip E hr
  simp only [zJ] at hc
  subst hl
  exact wpAnyS_pure ho hc.1.1.1 (fun _ _ _ h => by cases h.1) hc.2 m listed a w (Region.free_spec ho hc.1.1.2) (by simpa using hc.1.2) (.inr ⟨hw, rfl⟩) hS (next _ (E.put undef hf))
theorem h_pureR {F : Act → World → Prop} {m : Nat} {listed listed' : Array Bool} (E : Env a n l) {v : Value} (i : Nat)
    (hr : Xg P ops n i l = some (d, fun w => .ok (.value v) w))
    (hc : (Region.noSelect ops && Region.free .any ops listed i && (Region.ready .any ops listed).contains i && (St.all fun s => s != i)) = true) (hl : listed.setIfInBounds i true = listed') (hS : (St.all fun s => !listed.getD s true) = true → S w)
    (next : ∀ a', Env a' n (QQ d v l) → wpAnyS P ops (fun e a w => e = .normal ∧ F a w) S St m listed' a' w) :
    wpAnyS P ops (fun e a w => e = .normal ∧ F a w) S St (m + 1) listed a w := by
  obtain ⟨s, hs, h⟩ := opRuns_spec hr
  exact h_free E i hs (fun w => h w) hc hl hS next
theorem h_ext {F : Act → World → Prop} {m : Nat} {listed listed' : Array Bool} (E : Env a n l) {f : FuncId} {args : Array Value} {v : Value} (i : Nat)
    (h : Xg P ops n i l = some (d, fun w => (callFunc f args).run P w)) (hr : ∀ w, (callFunc f args).run P w = .ok (.value v) w)
    (hc : (Region.noSelect ops && Region.free .any ops listed i && (Region.ready .any ops listed).contains i && (St.all fun s => s != i)) = true) (hl : listed.setIfInBounds i true = listed') (hS : (St.all fun s => !listed.getD s true) = true → S w)
    (next : ∀ a', Env a' n (QQ d v l) → wpAnyS P ops (fun e a w => e = .normal ∧ F a w) S St m listed' a' w) :
    wpAnyS P ops (fun e a w => e = .normal ∧ F a w) S St (m + 1) listed a w :=
  h_pureR E i (h.trans (by rw [funext hr])) hc hl hS next
theorem h_ways {m : Nat} {listed : Array Bool} (is : List Nat) (hr : Region.ready .any ops listed = is) (hn : is.isEmpty = false)
    (h : AllWays (fun i => ∀ listed', listed.setIfInBounds i true = listed' → wpOp P ops Q i (fun a' w' => ((St.all fun s => !listed'.getD s true) = true → S w') ∧ wpAnyS P ops Q S St m listed' a' w') a w) is) : wpAnyS P ops Q S St (m + 1) listed a w :=
  ⟨fun h0 => (by rw [hr] at h0; subst h0; cases hn), fun i hi => AllWays.mem h i (hr ▸ hi) _ rfl⟩
theorem h_at {m : Nat} {listed listed' : Array Bool} (i : Nat) (hr : Region.ready .any ops listed = [i]) (hl : listed.setIfInBounds i true = listed')
    (h : wpOp P ops Q i (fun a' w' => ((St.all fun s => !listed'.getD s true) = true → S w') ∧ wpAnyS P ops Q S St m listed' a' w') a w) : wpAnyS P ops Q S St (m + 1) listed a w :=
  h_ways [i] hr rfl ⟨fun _ hl' => by subst hl hl'; exact h, trivial⟩
theorem h_name {m : Nat} {listed : Array Bool} (h : ∀ G : Nat → Array Bool → Act → World → Prop, G = wpAnyS P ops Q S St → G m listed a w) : wpAnyS P ops Q S St m listed a w := h _ rfl
theorem h_from {G : Nat → Array Bool → Act → World → Prop} (hG : G = wpAnyS P ops Q S St) {m : Nat} {listed : Array Bool} (h : wpAnyS P ops Q S St m listed a w) : G m listed a w := hG ▸ h
theorem h_to {G : Nat → Array Bool → Act → World → Prop} (hG : G = wpAnyS P ops Q S St) {m : Nat} {listed listed' : Array Bool} (hl : listed = listed') (h : G m listed' a w) : wpAnyS P ops Q S St m listed a w := by subst hG hl; exact h
theorem run_loadAgg2 {t : TypeId} {ad : Addr} {cs : List Value} {m : Nat} (hm : cs.length = m) (ht : (fun w => (isAgg t).run P w) = fun w => .ok true w) (hs : (fun w => (sizeOf t).run P w) = fun w => .ok m w) (hc : ∀ j v, cs[j]? = some v → w.cell? (ad.add j) = some v) :
    (Instr.loadAt t (.pointer (some ad))).run P w = .ok (.agg cs.toArray) w := by
  subst hm
  exact run_loadAgg ht hs hc
theorem run_loadel {t : TypeId} {ad A : Addr} {ao : Option Addr} {xs : List Value} {o : Nat} {v : Value} (hA : A = ad.add o) (hr : Reads w ao xs) (ha : ao = some ad) (hv : xs[o]? = some v) (ht : (fun w => (isAgg t).run P w) = fun w => .ok false w) :
    (Instr.loadAt t (.pointer (some A))).run P w = .ok v w := by
  subst hA ha
  exact Zt ht (hr o v hv)
end
end Go.Dbr
namespace Go.Dbr
open Go Go.RowKit
def keepL (ls : List Nat) (l : List (Nat × Value)) : List (Nat × Value) := ls.filterMap fun i => (QB l i).map fun v => (i, v)
theorem look_keep {ls : List Nat} {l : List (Nat × Value)} {t : Nat} {v : Value} (h : QB (keepL ls l) t = some v) : QB l t = some v := by
  induction ls with
  | nil => cases h
  | cons i r ih =>
    unfold keepL at h ih
    rw [XZ] at h
    cases hx : QB l i with
    | none =>
      rw [hx] at h
      exact ih h
    | some u =>
      rw [hx] at h
      simp only [Option.map_some] at h
      by_cases e : i = t
      · subst e
        rw [look_self] at h
        rw [hx, h]
      · rw [look_other _ _ e] at h
        exact ih h
theorem Env.keep {a : Act} {n : Nat} {l : List (Nat × Value)} (E : Env a n l) (ls : List Nat) : Env a n (keepL ls l) := ⟨E.size, E.defers, fun i v h => E.slot i v (look_keep h)⟩
section
variable {P : Program} {ops : Array Oper} {Q : Exit → Act → World → Prop} {n i : Nat} {l : List (Nat × Value)} {a : Act} {w : World}
end
end Go.Dbr
namespace Go.Dbr
open Go Go.RowKit
structure FV where
  raw : Value
  fin : Value
  eq : raw = fin
def g_i (k : IntKind) {e z : Int} (h : e = z) : FV := ⟨.int k e, .int k z, by rw [h]⟩
def g_b {a b : Bool} (h : a = b) : FV := ⟨.bool a, .bool b, by rw [h]⟩
def g_v {u v : Value} (h : u = v) : FV := ⟨u, v, h⟩
theorem w_r {e x : Int} (h : e = x) (h1 : -9223372036854775808 ≤ x := by omega) (h2 : x ≤ 9223372036854775807 := by omega) : IntKind.wrap .i64 e = x := wr64 h h1 h2
theorem w_a (a b : Nat) (h : a + b ≤ 9223372036854775807 := by omega) : IntKind.wrap .i64 (((a : Nat) : Int) + ((b : Nat) : Int)) = ((a + b : Nat) : Int) := wr64 (by omega) (by omega) (by omega)
theorem w_m (a b : Nat) (h : a * b ≤ 9223372036854775807 := by omega) : IntKind.wrap .i64 (((a : Nat) : Int) * ((b : Nat) : Int)) = ((a * b : Nat) : Int) := wr64 (Int.natCast_mul a b).symm (by omega) (by omega)
def g_n {e z : Int} (h : IntKind.wrap .i64 e = z) : FV := ⟨.int .i64 (IntKind.wrap .i64 e), .int .i64 z, by rw [h]⟩
def fvAt : List (Nat × FV) → Nat → Option FV
  | [], _ => none
  | (i, f) :: r, t => bif Qn i t then some f else fvAt r t
def finOf (fs : List (Nat × FV)) (i : Nat) (v : Value) : Value := match fvAt fs i with
  | some f => f.fin
  | none => v
def rawOf (fs : List (Nat × FV)) (i : Nat) (v : Value) : Value := match fvAt fs i with
  | some f => f.raw
  | none => v
theorem raw_fin (fs : List (Nat × FV)) (i : Nat) (v : Value) : rawOf fs i v = finOf fs i v := by
  unfold rawOf finOf
  cases fvAt fs i with
  | none => rfl
  | some f => exact f.eq
section
variable (P : Program) (ops : Array Oper) (n : Nat)
def valAt (l : List (Nat × Value)) (i : Nat) : Value :=
  match QC ops n i l with
  | some (.run _ s) => match s.run P default with
    | .ok (.value v) _ => v
    | _ => undef
  | _ => undef
def nextL (fs : List (Nat × FV)) (l : List (Nat × Value)) (i : Nat) : List (Nat × Value) :=
  match QC ops n i l with
  | some (.run d _) => QQ d (finOf fs i (valAt P ops n l i)) l
  | some (.skip d) => QQ d undef l
  | none => l
def resA (w : World) (l : List (Nat × Value)) (i : Nat) : Option (Result Next) :=
  match QC ops n i l with
  | some (.run _ s) => some (s.run P w)
  | some (.skip _) => some (.ok (.value undef) w)
  | none => none
def expA (fs : List (Nat × FV)) (w : World) (l : List (Nat × Value)) (i : Nat) : Option (Result Next) := some (.ok (.value (rawOf fs i (valAt P ops n l i))) w)
def resL (fs : List (Nat × FV)) (w : World) : List (Nat × Value) → Nat → Nat → List (Option (Result Next))
  | _, _, 0 => []
  | l, i, m + 1 => resA P ops n w l i :: resL fs w (nextL P ops n fs l i) (i + 1) m
def expL (fs : List (Nat × FV)) (w : World) : List (Nat × Value) → Nat → Nat → List (Option (Result Next))
  | _, _, 0 => []
  | l, i, m + 1 => expA P ops n fs w l i :: expL fs w (nextL P ops n fs l i) (i + 1) m
def endL (fs : List (Nat × FV)) : List (Nat × Value) → Nat → Nat → List (Nat × Value)
  | l, _, 0 => l
  | l, i, m + 1 => endL fs (nextL P ops n fs l i) (i + 1) m
end
section
variable {P : Program} {ops : Array Oper} {Q : Exit → Act → World → Prop} {n i : Nat} {l : List (Nat × Value)} {a : Act} {w w0 : World} {d : Option Tmp} {L L0 : List Ent} {K : Act → World → Prop}
theorem dense_go (fs : List (Nat × FV)) : ∀ (m i : Nat) (l : List (Nat × Value)) (a : Act), Env a n l → resL P ops n fs w l i m = expL P ops n fs w l i m →
    (∀ a', Env a' n (endL P ops n fs l i m) → Xa P ops Q (i + m) a' w) → Xa P ops Q i a w
  | 0, i, l, a, E, _, next => next a E
  | m + 1, i, l, a, E, h, next => by
    simp only [resL, expL, List.cons.injEq] at h
    obtain ⟨h1, h2⟩ := h
    have go : ∀ a', Env a' n (nextL P ops n fs l i) → Xa P ops Q (i + 1) a' w := fun a' E' => dense_go fs m (i + 1) _ a' E' h2 fun a'' E'' => by
      have := next a'' E''
      rwa [show i + (m + 1) = i + 1 + m by omega] at this
    unfold resA expA at h1
    unfold nextL at go
    cases ho : QC ops n i l with
    | none => simp [ho] at h1
    | some x =>
      cases x with
      | run d s =>
        simp only [ho, Option.some.injEq] at h1 go
        rw [raw_fin] at h1
        exact step_run E ho h1 go
      | skip d =>
        simp only [ho] at go
        exact step_skip E ho go
theorem d_k (ls : List Nat) (fs : List (Nat × FV)) (k : Nat) (E : Env a n l) (next : ∀ a', Env a' n (keepL ls (endL P ops n fs l i (k - i))) → Xa P ops Q k a' w)
    (h : (fun w => resL P ops n fs w l i (k - i)) = fun w => expL P ops n fs w l i (k - i) := by kernel_rfl) (hk : i + (k - i) = k := by kernel_rfl) : Xa P ops Q i a w :=
  dense_go fs (k - i) i l a E (congrFun h w) fun a' E' => by rw [hk]; exact next a' (E'.keep ls)
theorem d_e (ls : List Nat) (fs : List (Nat × FV)) (E : Env a n l) (next : ∀ a', Env a' n (keepL ls (endL P ops n fs l i (ops.size - i))) → Q .normal a' w)
    (h : (fun w => resL P ops n fs w l i (ops.size - i)) = fun w => expL P ops n fs w l i (ops.size - i) := by kernel_rfl) (hk : i + (ops.size - i) = ops.size := by kernel_rfl) : Xa P ops Q i a w :=
  dense_go fs (ops.size - i) i l a E (congrFun h w) fun a' E' => from_end hk.symm (next a' (E'.keep ls))
theorem d_r {id : Nat} (ls : List Nat) (fs : List (Nat × FV)) (E : Env a n l) (next : ∀ a', Env a' n (keepL ls (endL P ops n fs l 0 (ops.size - 0))) → Q .normal a' w)
    (h : (fun w => resL P ops n fs w l 0 (ops.size - 0)) = fun w => expL P ops n fs w l 0 (ops.size - 0) := by kernel_rfl) : (Code.region id ops false).wp P Q a w :=
  zj (d_e ls fs E next h (by omega))
theorem d_s {id : Nat} {y : Code} (ls : List Nat) (fs : List (Nat × FV)) (E : Env a n l) (next : ∀ a', Env a' n (keepL ls (endL P ops n fs l 0 (ops.size - 0))) → y.wp P Q a' w)
    (h : (fun w => resL P ops n fs w l 0 (ops.size - 0)) = fun w => expL P ops n fs w l 0 (ops.size - 0) := by kernel_rfl) : (Code.seq (Code.region id ops false) y).wp P Q a w :=
  wp_seq (d_r ls fs E next h)
theorem f_o (h : wpOp P ops Q i (Xa P ops Q (i + 1)) a w) (hi : Nat.blt i ops.size = true := by kernel_rfl) : Xa P ops Q i a w := from_op hi h
theorem f_e (h : Q .normal a w) (hs : ops.size = i := by kernel_rfl) : Xa P ops Q i a w := from_end hs h
theorem Env.fx {t : Nat} {v u : Value} (E : Env a n l) (hv : v = u) (h : QB l t = some v := by kernel_rfl) : Env a n ((t, u) :: l) := by
  subst hv
  refine ⟨E.size, E.defers, fun i x hx => ?_⟩
  by_cases e : t = i
  · subst e
    rw [look_self] at hx
    rw [← hx]
    exact E.slot t v h
  · rw [look_other _ _ e] at hx
    exact E.slot i x hx
theorem Env.sb {l' : List (Nat × Value)} (E : Env a n l) (h : l'.map (fun p => QB l p.1) = l'.map (fun p => some p.2) := by kernel_rfl) : Env a n l' := E.sub h
def nodupB : List Nat → Bool
  | [] => true
  | i :: r => !r.contains i && nodupB r
theorem nodup_of : ∀ {l : List Nat}, nodupB l = true → l.Nodup
  | [], _ => List.nodup_nil
  | i :: r, h => by
    simp only [nodupB, zJ, QD] at h
    refine List.nodup_cons.2 ⟨fun hm => ?_, nodup_of h.2⟩
    have := Zl.2 hm
    rw [h.1] at this
    cases this
theorem Ev.pk {w' : World} {L' : List Ent} (h : Ev w L w' L') (is : List Nat) {M : List Ent} (hm : M.map some = is.map (fun i => L'[i]?) := by kernel_rfl) (nd : nodupB is = true := by kernel_rfl) : Ev w L w' M := h.pick is hm (nodup_of nd)
theorem c_d {c : Nat} {x y : Code} (p : Prop) [Decidable p] (E : Env a n l) (ht : p → x.wp P Q a w) (hf : ¬ p → y.wp P Q a w) (hc : QB l c = some (.bool (decide p)) := by kernel_rfl) : (Code.cond (.tmp c) x y).wp P Q a w :=
  Ql E hc (fun h => ht (of_decide_eq_true h)) (fun h => hf (of_decide_eq_false h))
theorem c_e {c : Nat} {x y : Code} (u v : Int) (E : Env a n l) (ht : u = v → x.wp P Q a w) (hf : ¬ u = v → y.wp P Q a w) (hc : QB l c = some (.bool (u == v)) := by kernel_rfl) : (Code.cond (.tmp c) x y).wp P Q a w :=
  Ql E hc (fun h => ht (eq_of_beq h)) (fun h => hf (ne_of_beq_false h))
theorem c_n {c : Nat} {x y : Code} (u v : Int) (E : Env a n l) (ht : ¬ u = v → x.wp P Q a w) (hf : u = v → y.wp P Q a w) (hc : QB l c = some (.bool (u != v)) := by kernel_rfl) : (Code.cond (.tmp c) x y).wp P Q a w :=
  Ql E hc (fun h => ht (by simpa using h)) (fun h => hf (by simpa using h))
theorem c_t {c : Nat} {x y : Code} (E : Env a n l) (h : x.wp P Q a w) (hc : QB l c = some (.bool true) := by kernel_rfl) : (Code.cond (.tmp c) x y).wp P Q a w := cond_true E hc rfl h
theorem c_f {c : Nat} {x y : Code} (E : Env a n l) (h : y.wp P Q a w) (hc : QB l c = some (.bool false) := by kernel_rfl) : (Code.cond (.tmp c) x y).wp P Q a w := cond_false E hc rfl h
def opD (ops : Array Oper) (i : Nat) : Option Tmp := match ops[i]? with
  | some o => o.dst
  | none => none
def opTy (ops : Array Oper) (i : Nat) : TypeId := match ops[i]? with
  | some o => match o.op with
    | .load t _ => t
    | .store t _ _ => t
    | .alloc t => t
    | .box t _ => t
    | _ => 0
  | none => 0
def opV (ops : Array Oper) (l : List (Nat × Value)) (i k : Nat) : Value := match ops[i]? with
  | some o => val l (o.op.operands.getD k (.const undef))
  | none => undef
def adV : Value → Addr
  | .pointer (some a) => a
  | _ => ⟨0, 0, none⟩
def offV (v : Value) : Nat := (adV v).off
def boxB (L : List Ent) (k : Nat) : Nat := match L[k]? with
  | some (.box b _ _) => b
  | _ => 0
def boxC (L : List Ent) (k : Nat) : List Value := match L[k]? with
  | some (.box _ cs _) => cs
  | _ => []
def boxT (L : List Ent) (k : Nat) : TypeId := match L[k]? with
  | some (.box _ _ T) => T
  | _ => 0
def cellV (L : List Ent) (k off : Nat) : Value := match (boxC L k)[off]? with
  | some v => v
  | none => undef
theorem m_l (k : Nat) (E : Env a n l) (H : Ev w0 L0 w L) (next : ∀ a', Env a' n (QQ (opD ops i) (cellV L k (offV (opV ops l i 0))) l) → K a' w)
    (h : QC ops n i l = some (.run (opD ops i) (nv (Instr.loadAt (opTy ops i) (.pointer (some ⟨boxB L k, offV (opV ops l i 0), none⟩))))) := by kernel_rfl)
    (hk : L[k]? = some (.box (boxB L k) (boxC L k) (boxT L k)) := by kernel_rfl) (hv : (boxC L k)[offV (opV ops l i 0)]? = some (cellV L k (offV (opV ops l i 0))) := by kernel_rfl)
    (ht : (fun w => (isAgg (opTy ops i)).run P w) = fun w => .ok false w := by kernel_rfl) : wpOp P ops Q i K a w := op_loadbox E h H hk hv ht next
theorem m_v (k off : Nat) (v : Value) (E : Env a n l) (H : Ev w0 L0 w L) {b : Nat} {cs : List Value} {T : TypeId} (hk : L[k]? = some (.box b cs T)) (hv : cs[off]? = some v) (next : ∀ a', Env a' n (QQ (opD ops i) v l) → K a' w)
    (h : QC ops n i l = some (.run (opD ops i) (nv (Instr.loadAt (opTy ops i) (.pointer (some ⟨b, off, none⟩))))) := by kernel_rfl)
    (ht : (fun w => (isAgg (opTy ops i)).run P w) = fun w => .ok false w := by kernel_rfl) : wpOp P ops Q i K a w := op_loadbox E h H hk hv ht next
theorem m_a (k off m : Nat) (xs : List Value) (E : Env a n l) (H : Ev w0 L0 w L) {b : Nat} {cs : List Value} {T : TypeId} (hk : L[k]? = some (.box b cs T)) (hx : (cs.drop off).take m = xs) (hm : xs.length = m) (next : ∀ a', Env a' n (QQ (opD ops i) (.agg xs.toArray) l) → K a' w)
    (h : QC ops n i l = some (.run (opD ops i) (nv (Instr.loadAt (opTy ops i) (.pointer (some ⟨b, off, none⟩))))) := by kernel_rfl)
    (ht : (fun w => (isAgg (opTy ops i)).run P w) = fun w => .ok true w := by kernel_rfl) (hs : (fun w => (sizeOf (opTy ops i)).run P w) = fun w => .ok m w := by kernel_rfl) : wpOp P ops Q i K a w := op_loadaggbox E h H hk hx hm ht hs next
theorem m_s (k : Nat) (L' : List Ent) (E : Env a n l) (H : Ev w0 L0 w L) (next : ∀ a' w', Env a' n (QQ (opD ops i) undef l) → Ev w0 L0 w' L' → K a' w')
    (h : QC ops n i l = some (.run (opD ops i) (nu (Instr.storeAt (opTy ops i) (.pointer (some ⟨boxB L k, offV (opV ops l i 0), none⟩)) (opV ops l i 1)))) := by kernel_rfl)
    (hk : L[k]? = some (.box (boxB L k) (boxC L k) (boxT L k)) := by kernel_rfl) (ho : (boxC L k)[offV (opV ops l i 0)]? = some (cellV L k (offV (opV ops l i 0))) := by kernel_rfl)
    (hs : (fun w => (sizeOf (opTy ops i)).run P w) = fun w => .ok 1 w := by kernel_rfl) (hv : (opV ops l i 1).oneCell' = true := by kernel_rfl)
    (hL : L.set k (.box (boxB L k) ((boxC L k).set (offV (opV ops l i 0)) (opV ops l i 1)) (boxT L k)) = L' := by kernel_rfl) : wpOp P ops Q i K a w := op_storebox E h H hk ho hs hv hL next
theorem m_t (k off : Nat) (v : Value) (L' : List Ent) (E : Env a n l) (H : Ev w0 L0 w L) {b : Nat} {cs cs' : List Value} {T : TypeId} {old : Value} (hk : L[k]? = some (.box b cs T)) (ho : cs[off]? = some old) (hc : cs.set off v = cs') (hL : L.set k (.box b cs' T) = L')
    (next : ∀ a' w', Env a' n (QQ (opD ops i) undef l) → Ev w0 L0 w' L' → K a' w')
    (h : QC ops n i l = some (.run (opD ops i) (nu (Instr.storeAt (opTy ops i) (.pointer (some ⟨b, off, none⟩)) v))) := by kernel_rfl)
    (hs : (fun w => (sizeOf (opTy ops i)).run P w) = fun w => .ok 1 w := by kernel_rfl) (hv : v.oneCell' = true := by kernel_rfl) : wpOp P ops Q i K a w := by
  subst hc
  exact op_storebox E h H hk ho hs hv hL next
theorem m_g (k off m : Nat) (xs cs' : List Value) (L' : List Ent) (E : Env a n l) (H : Ev w0 L0 w L) {b : Nat} {cs : List Value} {T : TypeId} (hk : L[k]? = some (.box b cs T)) (hm : xs.length = m) (hl : off + m ≤ cs.length) (h1 : ∀ u ∈ xs, u.oneCell' = true) (hc : cs.take off ++ xs ++ cs.drop (off + m) = cs') (hL : L.set k (.box b cs' T) = L')
    (next : ∀ a' w', Env a' n (QQ (opD ops i) undef l) → Ev w0 L0 w' L' → K a' w')
    (h : QC ops n i l = some (.run (opD ops i) (nu (Instr.storeAt (opTy ops i) (.pointer (some ⟨b, off, none⟩)) (opV ops l i 1)))) := by kernel_rfl)
    (hv : (opV ops l i 1).cells = xs.toArray := by kernel_rfl)
    (hs : (fun w => (sizeOf (opTy ops i)).run P w) = fun w => .ok m w := by kernel_rfl) : wpOp P ops Q i K a w := op_storeaggbox E h H hk hv hm hl hs h1 hc hL next
theorem m_gw (k m : Nat) (xs : List Value) (L' : List Ent) (E : Env a n l) (H : Ev w0 L0 w L) {b : Nat} {cs : List Value} {T : TypeId} (hk : L[k]? = some (.box b cs T)) (hm : xs.length = m) (h0 : cs.length = m) (h1 : ∀ u ∈ xs, u.oneCell' = true) (hL : L.set k (.box b xs T) = L')
    (next : ∀ a' w', Env a' n (QQ (opD ops i) undef l) → Ev w0 L0 w' L' → K a' w')
    (h : QC ops n i l = some (.run (opD ops i) (nu (Instr.storeAt (opTy ops i) (.pointer (some ⟨b, 0, none⟩)) (opV ops l i 1)))) := by kernel_rfl)
    (hv : (opV ops l i 1).cells = xs.toArray := by kernel_rfl)
    (hs : (fun w => (sizeOf (opTy ops i)).run P w) = fun w => .ok m w := by kernel_rfl) : wpOp P ops Q i K a w := m_g k 0 m xs xs L' E H hk hm (by omega) h1 (store_whole h0) hL next h hv hs
theorem m_aw (k m : Nat) (xs : List Value) (E : Env a n l) (H : Ev w0 L0 w L) {b : Nat} {T : TypeId} (hk : L[k]? = some (.box b xs T)) (hm : xs.length = m) (next : ∀ a', Env a' n (QQ (opD ops i) (.agg xs.toArray) l) → K a' w)
    (h : QC ops n i l = some (.run (opD ops i) (nv (Instr.loadAt (opTy ops i) (.pointer (some ⟨b, 0, none⟩))))) := by kernel_rfl)
    (ht : (fun w => (isAgg (opTy ops i)).run P w) = fun w => .ok true w := by kernel_rfl) (hs : (fun w => (sizeOf (opTy ops i)).run P w) = fun w => .ok m w := by kernel_rfl) : wpOp P ops Q i K a w := m_a k 0 m xs E H hk (zn hm) hm next h ht hs
theorem m_m (T : TypeId) (cs : List Value) (E : Env a n l) (H : Ev w0 L0 w L) (next : ∀ a' w' b, Env a' n (QQ (opD ops i) (.pointer (some ⟨b, 0, none⟩)) l) → Ev w0 L0 w' (L ++ [.box b cs T]) → K a' w')
    (h : QC ops n i l = some (.run (opD ops i) (nv (Instr.box T (opV ops l i 0)))) := by kernel_rfl) (hc : (opV ops l i 0).cells.toList = cs := by kernel_rfl) : wpOp P ops Q i K a w := op_newbox E h hc H next
def zeroV (P : Program) (t : TypeId) : Value := match (zeroValue t).run P default with
  | .ok v _ => v
  | _ => undef
theorem m_z (T : TypeId) (cs : List Value) (E : Env a n l) (H : Ev w0 L0 w L) (next : ∀ a' w' b, Env a' n (QQ (opD ops i) (.pointer (some ⟨b, 0, none⟩)) l) → Ev w0 L0 w' (L ++ [.box b cs T]) → K a' w')
    (h : QC ops n i l = some (.run (opD ops i) (nv (Instr.alloc T true (.tuple #[])))) := by kernel_rfl) (hz : (fun w => (zeroValue T).run P w) = fun w => .ok (zeroV P T) w := by kernel_rfl)
    (hc : (zeroV P T).cells.toList = cs := by kernel_rfl) : wpOp P ops Q i K a w := op_alloc E h hz hc H next
def restI (is : List Nat) (m : Nat) : List Nat := (Q3 m).filter fun i => !is.contains i
def restE (L : List Ent) (is : List Nat) : List Ent := (restI is L.length).filterMap fun i => L[i]?
theorem rest_map {L : List Ent} : ∀ {js : List Nat}, (∀ j ∈ js, j < L.length) → (js.filterMap fun i => L[i]?).map some = js.map fun i => L[i]?
  | [], _ => rfl
  | j :: r, h => by
    have hj := h j (by simp)
    rw [XZ, z3 hj]
    simp only [List.map_cons]
    rw [rest_map fun k hk => h k (by simp [hk]), z3 hj]
theorem restI_nodup {is : List Nat} (h : is.Nodup) (m : Nat) : (is ++ restI is m).Nodup := by
  rw [List.nodup_append]
  refine ⟨h, (List.nodup_range).filter _, fun a ha b hb e => ?_⟩
  subst e
  have := (XG.1 hb).2
  simp only [QD] at this
  have h2 := Zl.2 ha
  rw [this] at h2
  cases h2
theorem c_l (is : List Nat) {f : FuncId} {args : Array Value} {M : List Ent} {post : Ending → World → Prop} (E : Env a n l) (H : Ev w0 L0 w L) (hc : Heap w M → Calls P f args w post)
    (next : ∀ e w', post e w' → ∃ v M' L', e = .returned v ∧ Ev w M w' M' ∧ M' ++ restE L is = L' ∧ ∀ a', Env a' n (QQ (opD ops i) v l) → Ev w0 L0 w' L' → K a' w')
    (h : Xg P ops n i l = some (opD ops i, fun w => .ok (.enter f args) w) := by kernel_rfl) (hm : M.map some = is.map (fun i => L[i]?) := by kernel_rfl) (nd : nodupB is = true := by kernel_rfl) : wpOp P ops Q i K a w := by
  refine op_call E h ((hc (H.heap.pick is hm (nodup_of nd))).mono fun e w' he => ?_)
  obtain ⟨v, M', L', Ea, Eb, rfl, hn⟩ := next e w' he
  refine ⟨v, Ea, fun a' E' => hn a' E' (H.trans (Ev.call H.heap (is ++ restI is L.length) ?_ (restI_nodup (nodup_of nd) _) Eb))⟩
  rw [Qk, Qk, hm]
  congr 1
  exact rest_map fun j hj => QH.1 (XG.1 hj).1
theorem c_0 {f : FuncId} {args : Array Value} {post : Ending → World → Prop} (E : Env a n l) (H : Ev w0 L0 w L) (hc : Calls P f args w post)
    (next : ∀ e w', post e w' → ∃ v M' L', e = .returned v ∧ Ev w [] w' M' ∧ M' ++ L = L' ∧ ∀ a', Env a' n (QQ (opD ops i) v l) → Ev w0 L0 w' L' → K a' w')
    (h : Xg P ops n i l = some (opD ops i, fun w => .ok (.enter f args) w) := by kernel_rfl) : wpOp P ops Q i K a w := by
  refine op_call E h (hc.mono fun e w' he => ?_)
  obtain ⟨v, M', L', Ea, Eb, rfl, hn⟩ := next e w' he
  exact ⟨v, Ea, fun a' E' => hn a' E' (H.trans (Ev.frame (R := L) (L := []) H.heap Eb))⟩
theorem c_p {f : FuncId} {args : Array Value} {v : Value} (E : Env a n l) (H : Ev w0 L0 w L) (hc : Calls P f args w fun e w' => e = .returned v ∧ Ev w [] w' [])
    (next : ∀ a' w', Env a' n (QQ (opD ops i) v l) → Ev w0 L0 w' L → K a' w')
    (h : Xg P ops n i l = some (opD ops i, fun w => .ok (.enter f args) w) := by kernel_rfl) : wpOp P ops Q i K a w :=
  c_0 E H hc (fun _ w' ⟨Ea, Eb⟩ => ⟨v, [], L, Ea, Eb, rfl, fun a' E' H' => next a' w' E' H'⟩) h
theorem d_0 {P : Program} {f : FuncId} {args : Array Value} {R : Ending → World → Prop} {w : World} {L : List Ent} (l : List (Nat × Value)) (n : Nat) {fn : Func} {c : Code} (hf : P.funcs[f]? = some fn) (hn : fn.ntmps = n) (hH : Heap w L)
    (h : ∀ a, Env a n l → Ev w L w L → c.wp P (bodyPost P fn R) a w) (hb : fn.body = some c := by rfl) (hs : Nat.ble args.size n = true := by kernel_rfl) (hl : l.map (fun p => args[p.1]?) = l.map (fun p => some p.2) := by kernel_rfl) : Calls P f args w R :=
  d_start l n hf hn hb hs hl fun a E => h a E (Ev.refl hH)
section
variable {S : World → Prop} {St : List Nat}
def condL (ops : Array Oper) (St : List Nat) : List Nat → Array Bool → Bool
  | [], _ => true
  | i :: r, listed => (Region.noSelect ops && Region.free .any ops listed i && (Region.ready .any ops listed).contains i && (St.all fun s => s != i)) && condL ops St r (listed.setIfInBounds i true)
def doneL : List Nat → Array Bool → Array Bool
  | [], listed => listed
  | i :: r, listed => doneL r (listed.setIfInBounds i true)
def resI (P : Program) (ops : Array Oper) (n : Nat) (fs : List (Nat × FV)) (w : World) : List (Nat × Value) → List Nat → List (Option (Result Next))
  | _, [] => []
  | l, i :: r => resA P ops n w l i :: resI P ops n fs w (nextL P ops n fs l i) r
def expI (P : Program) (ops : Array Oper) (n : Nat) (fs : List (Nat × FV)) (w : World) : List (Nat × Value) → List Nat → List (Option (Result Next))
  | _, [] => []
  | l, i :: r => expA P ops n fs w l i :: expI P ops n fs w (nextL P ops n fs l i) r
def endI (P : Program) (ops : Array Oper) (n : Nat) (fs : List (Nat × FV)) : List (Nat × Value) → List Nat → List (Nat × Value)
  | l, [] => l
  | l, i :: r => endI P ops n fs (nextL P ops n fs l i) r
theorem hs_go {F : Act → World → Prop} (fs : List (Nat × FV)) (hS : S w) : ∀ (is : List Nat) (m : Nat) (l : List (Nat × Value)) (listed : Array Bool) (a : Act), Env a n l → (fun w => resI P ops n fs w l is) = (fun w => expI P ops n fs w l is) → condL ops St is listed = true →
    (∀ a', Env a' n (endI P ops n fs l is) → wpAnyS P ops (HQ F) S St m (doneL is listed) a' w) → wpAnyS P ops (HQ F) S St (m + is.length) listed a w
  | [], m, l, listed, a, E, _, _, next => next a E
  | i :: r, m, l, listed, a, E, h, hc, next => by
    have h1 : ∀ w, resA P ops n w l i = expA P ops n fs w l i := fun w => (List.cons.inj (congrFun h w)).1
    have h2 : (fun w => resI P ops n fs w (nextL P ops n fs l i) r) = fun w => expI P ops n fs w (nextL P ops n fs l i) r := funext fun w => (List.cons.inj (congrFun h w)).2
    have Ea : (Region.noSelect ops && Region.free .any ops listed i && (Region.ready .any ops listed).contains i && (St.all fun s => s != i)) = true ∧ condL ops St r (listed.setIfInBounds i true) = true := (zJ _ _).mp hc
    have go : ∀ a', Env a' n (nextL P ops n fs l i) → wpAnyS P ops (HQ F) S St (m + r.length) (listed.setIfInBounds i true) a' w := fun a' E' => hs_go fs hS r m _ _ a' E' h2 Ea.2 next
    show wpAnyS P ops (HQ F) S St (m + r.length + 1) listed a w
    unfold resA expA at h1
    unfold nextL at go
    cases ho : QC ops n i l with
    | none => have := h1 w; simp [ho] at this
    | some x =>
      cases x with
      | run d s =>
        simp only [ho, Option.some.injEq] at h1 go
        rw [raw_fin] at h1
        exact h_free E i ho h1 Ea.1 rfl (fun _ => hS) go
      | skip d =>
        simp only [ho] at go
        exact h_skip E i ho Ea.1 rfl (fun _ => hS) go
theorem hs_go' {F : Act → World → Prop} (fs : List (Nat × FV)) : ∀ (is : List Nat) (m : Nat) (l : List (Nat × Value)) (listed : Array Bool) (a : Act), Env a n l → (fun w => resI P ops n fs w l is) = (fun w => expI P ops n fs w l is) → condL ops St is listed = true → (St.all fun s => !listed.getD s true) = false →
    (∀ a', Env a' n (endI P ops n fs l is) → wpAnyS P ops (HQ F) S St m (doneL is listed) a' w) → wpAnyS P ops (HQ F) S St (m + is.length) listed a w
  | [], m, l, listed, a, E, _, _, _, next => next a E
  | i :: r, m, l, listed, a, E, h, hc, hf, next => by
    have h1 : ∀ w, resA P ops n w l i = expA P ops n fs w l i := fun w => (List.cons.inj (congrFun h w)).1
    have h2 : (fun w => resI P ops n fs w (nextL P ops n fs l i) r) = fun w => expI P ops n fs w (nextL P ops n fs l i) r := funext fun w => (List.cons.inj (congrFun h w)).2
    have Ea : (Region.noSelect ops && Region.free .any ops listed i && (Region.ready .any ops listed).contains i && (St.all fun s => s != i)) = true ∧ condL ops St r (listed.setIfInBounds i true) = true := (zJ _ _).mp hc
    have hf' : (St.all fun s => !(listed.setIfInBounds i true).getD s true) = false := by
      rw [Bool.eq_false_iff] at hf ⊢
      intro hall
      apply hf
      rw [z7] at hall ⊢
      intro s hs
      have h3 := hall s hs
      have h4 : s ≠ i := by
        have := Ea.1
        simp only [zJ, z7] at this
        exact by simpa using this.2 s hs
      rwa [getD_set_keep (Ne.symm h4)] at h3
    have go : ∀ a', Env a' n (nextL P ops n fs l i) → wpAnyS P ops (HQ F) S St (m + r.length) (listed.setIfInBounds i true) a' w := fun a' E' => hs_go' fs r m _ _ a' E' h2 Ea.2 hf' next
    show wpAnyS P ops (HQ F) S St (m + r.length + 1) listed a w
    unfold resA expA at h1
    unfold nextL at go
    cases ho : QC ops n i l with
    | none => have := h1 w; simp [ho] at this
    | some x =>
      cases x with
      | run d s =>
        simp only [ho, Option.some.injEq] at h1 go
        rw [raw_fin] at h1
        exact h_free E i ho h1 Ea.1 rfl (fun h => by rw [hf] at h; cases h) go
      | skip d =>
        simp only [ho] at go
        exact h_skip E i ho Ea.1 rfl (fun h => by rw [hf] at h; cases h) go
theorem q_s {F : Act → World → Prop} {m : Nat} {listed : Array Bool} (is : List Nat) (fs : List (Nat × FV)) (m' : Nat) (E : Env a n l) (hS : S w) (next : ∀ a', Env a' n (endI P ops n fs l is) → wpAnyS P ops (HQ F) S St m' (doneL is listed) a' w)
    (h : (fun w => resI P ops n fs w l is) = (fun w => expI P ops n fs w l is) := by kernel_rfl) (hc : condL ops St is listed = true := by kernel_rfl) (hm : m = m' + is.length := by kernel_rfl) : wpAnyS P ops (HQ F) S St m listed a w := by
  subst hm
  exact hs_go fs hS is m' l listed a E h hc next
theorem q_n {F : Act → World → Prop} {m : Nat} {listed : Array Bool} (is : List Nat) (fs : List (Nat × FV)) (m' : Nat) (E : Env a n l) (next : ∀ a', Env a' n (endI P ops n fs l is) → wpAnyS P ops (HQ F) S St m' (doneL is listed) a' w)
    (h : (fun w => resI P ops n fs w l is) = (fun w => expI P ops n fs w l is) := by kernel_rfl) (hc : condL ops St is listed = true := by kernel_rfl) (hf : (St.all fun s => !listed.getD s true) = false := by kernel_rfl) (hm : m = m' + is.length := by kernel_rfl) : wpAnyS P ops (HQ F) S St m listed a w := by
  subst hm
  exact hs_go' fs is m' l listed a E h hc hf next
theorem any_go {F : Act → World → Prop} (fs : List (Nat × FV)) : ∀ (is : List Nat) (m : Nat) (l : List (Nat × Value)) (listed : Array Bool) (a : Act), Env a n l → (fun w => resI P ops n fs w l is) = (fun w => expI P ops n fs w l is) → condL ops [] is listed = true →
    (∀ a', Env a' n (endI P ops n fs l is) → wpAny P .any ops (HQ F) m (doneL is listed) a' w) → wpAny P .any ops (HQ F) (m + is.length) listed a w
  | [], m, l, listed, a, E, _, _, next => next a E
  | i :: r, m, l, listed, a, E, h, hc, next => by
    have h1 : ∀ w, resA P ops n w l i = expA P ops n fs w l i := fun w => (List.cons.inj (congrFun h w)).1
    have h2 : (fun w => resI P ops n fs w (nextL P ops n fs l i) r) = fun w => expI P ops n fs w (nextL P ops n fs l i) r := funext fun w => (List.cons.inj (congrFun h w)).2
    have Ea : (Region.noSelect ops && Region.free .any ops listed i && (Region.ready .any ops listed).contains i && (([] : List Nat).all fun s => s != i)) = true ∧ condL ops [] r (listed.setIfInBounds i true) = true := (zJ _ _).mp hc
    have Eb : (Region.noSelect ops && Region.free .any ops listed i && (Region.ready .any ops listed).contains i) = true := ((zJ _ _).mp Ea.1).1
    have go : ∀ a', Env a' n (nextL P ops n fs l i) → wpAny P .any ops (HQ F) (m + r.length) (listed.setIfInBounds i true) a' w := fun a' E' => any_go fs r m _ _ a' E' h2 Ea.2 next
    show wpAny P .any ops (HQ F) (m + r.length + 1) listed a w
    unfold resA expA at h1
    unfold nextL at go
    cases ho : QC ops n i l with
    | none => have := h1 w; simp [ho] at this
    | some x =>
      cases x with
      | run d s =>
        simp only [ho, Option.some.injEq] at h1 go
        rw [raw_fin] at h1
        exact any_pure E i ho (funext h1) Eb rfl go
      | skip d =>
        simp only [ho] at go
        exact any_skip E i ho Eb rfl go
theorem q_a {F : Act → World → Prop} {m : Nat} {listed : Array Bool} (is : List Nat) (fs : List (Nat × FV)) (m' : Nat) (E : Env a n l) (next : ∀ a', Env a' n (endI P ops n fs l is) → wpAny P .any ops (HQ F) m' (doneL is listed) a' w)
    (h : (fun w => resI P ops n fs w l is) = (fun w => expI P ops n fs w l is) := by kernel_rfl) (hc : condL ops [] is listed = true := by kernel_rfl) (hm : m = m' + is.length := by kernel_rfl) : wpAny P .any ops (HQ F) m listed a w := by
  subst hm
  exact any_go fs is m' l listed a E h hc next
theorem q_l {F : Act → World → Prop} {Lh : List Ent} {m : Nat} {listed : Array Bool} (k i : Nat) (E : Env a n l) (hS : Ev w0 L0 w Lh)
    (next : ∀ a', Env a' n (QQ (opD ops i) (cellV Lh k (offV (opV ops l i 0))) l) → wpAnyS P ops (HQ F) (fun wv => Ev w0 L0 wv Lh) St m (listed.setIfInBounds i true) a' w)
    (h : QC ops n i l = some (.run (opD ops i) (nv (Instr.loadAt (opTy ops i) (.pointer (some ⟨boxB Lh k, offV (opV ops l i 0), none⟩))))) := by kernel_rfl)
    (hk : Lh[k]? = some (.box (boxB Lh k) (boxC Lh k) (boxT Lh k)) := by kernel_rfl) (hv : (boxC Lh k)[offV (opV ops l i 0)]? = some (cellV Lh k (offV (opV ops l i 0))) := by kernel_rfl)
    (ht : (fun w => (isAgg (opTy ops i)).run P w) = fun w => .ok false w := by kernel_rfl)
    (hc : (Region.noSelect ops && Region.free .any ops listed i && (Region.ready .any ops listed).contains i && (St.all fun s => waits ops i s && s != i) && (St.all fun s => !listed.getD s true) && closedB ops listed) = true := by kernel_rfl) :
    wpAnyS P ops (HQ F) (fun wv => Ev w0 L0 wv Lh) St (m + 1) listed a w :=
  h_read E i h (fun _ hS => Xf (Zt ht (hS.heap.cell hk hv))) hc rfl hS next
theorem q_r {F : Act → World → Prop} {m : Nat} {listed : Array Bool} (i : Nat) {s : Sem Value} {v : Value} (E : Env a n l) (hv : ∀ w, S w → s.run P w = .ok v w) (hS : S w)
    (next : ∀ a', Env a' n (QQ (opD ops i) v l) → wpAnyS P ops (HQ F) S St m (listed.setIfInBounds i true) a' w)
    (hr : QC ops n i l = some (.run (opD ops i) (nv s)) := by kernel_rfl)
    (hc : (Region.noSelect ops && Region.free .any ops listed i && (Region.ready .any ops listed).contains i && (St.all fun s => waits ops i s && s != i) && (St.all fun s => !listed.getD s true) && closedB ops listed) = true := by kernel_rfl) :
    wpAnyS P ops (HQ F) S St (m + 1) listed a w :=
  h_read E i hr (fun w hS => Xf (hv w hS)) hc rfl hS next
theorem q_f {F : Act → World → Prop} {m : Nat} {listed : Array Bool} (i : Nat) {s : Sem Value} {v : Value} (E : Env a n l) (hv : ∀ w, s.run P w = .ok v w) (hS : (St.all fun s => !listed.getD s true) = true → S w)
    (next : ∀ a', Env a' n (QQ (opD ops i) v l) → wpAnyS P ops (HQ F) S St m (listed.setIfInBounds i true) a' w)
    (hr : QC ops n i l = some (.run (opD ops i) (nv s)) := by kernel_rfl)
    (hc : (Region.noSelect ops && Region.free .any ops listed i && (Region.ready .any ops listed).contains i && (St.all fun s => s != i)) = true := by kernel_rfl) :
    wpAnyS P ops (HQ F) S St (m + 1) listed a w :=
  h_free E i hr (fun w => Xf (hv w)) hc rfl hS next
theorem q_g {F : Act → World → Prop} {m : Nat} {listed : Array Bool} (i : Nat) {s : Sem Value} {v : Value} (E : Env a n l) (hv : ∀ w, s.run P w = .ok v w)
    (next : ∀ a', Env a' n (QQ (opD ops i) v l) → wpAny P .any ops (HQ F) m (listed.setIfInBounds i true) a' w)
    (hr : QC ops n i l = some (.run (opD ops i) (nv s)) := by kernel_rfl)
    (hc : (Region.noSelect ops && Region.free .any ops listed i && (Region.ready .any ops listed).contains i) = true := by kernel_rfl) :
    wpAny P .any ops (HQ F) (m + 1) listed a w :=
  any_pure E i hr (funext fun w => Xf (hv w)) hc rfl next
theorem q_t {m : Nat} {listed : Array Bool} (i : Nat) (h : wpOp P ops Q i (fun a' w' => ((St.all fun s => !(listed.setIfInBounds i true).getD s true) = true → S w') ∧ wpAnyS P ops Q S St m (listed.setIfInBounds i true) a' w') a w)
    (hr : Region.ready .any ops listed = [i] := by kernel_rfl) : wpAnyS P ops Q S St (m + 1) listed a w := h_at i hr rfl h
theorem q_u {m : Nat} {listed : Array Bool} (i : Nat) (h : wpOp P ops Q i (wpAny P .any ops Q m (listed.setIfInBounds i true)) a w) (hr : Region.ready .any ops listed = [i] := by kernel_rfl) : wpAny P .any ops Q (m + 1) listed a w := any_at i hr rfl h
theorem h_s {F : Act → World → Prop} {id : Nat} (S : World → Prop) (St : List Nat) (m : Nat) (h : wpAnyS P ops (HQ F) S St m (YE m false) a w.drew) (hm : P.follows .mixedOrders = true := by kernel_rfl) (hs : ops.size = m := by kernel_rfl) : (Code.region id ops true).wp P (HQ F) a w := h_start S St hm m hs h
theorem h_e {F : Act → World → Prop} {m : Nat} {listed : Array Bool} (h : F a w) (hr : Region.ready .any ops listed = [] := by kernel_rfl) : wpAnyS P ops (HQ F) S St m listed a w := h_end hr h
theorem a_e {F : Act → World → Prop} {m : Nat} {listed : Array Bool} (h : F a w) (hr : Region.ready .any ops listed = [] := by kernel_rfl) : wpAny P .any ops (HQ F) m listed a w := any_end hr h
theorem r_c {c : Code} (F : Act → World → Prop) (h : c.wp P (HQ F) a w) (next : ∀ a' w', F a' w' → Q .normal a' w') : c.wp P Q a w := region_cut h next
theorem q_y {b : Bool} {p : Prop} (h : b = false := by kernel_rfl) : b = true → p := not_yet h
theorem q_v {x : Sem Value} {v : Value} (E : Env a n l) (hr : x.run P w = .ok v w) (next : ∀ a', Env a' n (QQ (opD ops i) v l) → K a' w) (h : QC ops n i l = some (.run (opD ops i) (nv x)) := by kernel_rfl) : wpOp P ops Q i K a w := op_val E h hr next
end
end
end Go.Dbr
namespace Go.Proofs.YtpfhmbbiadpbeaaGreat
open Go.Dbr
abbrev pt (b : Nat) : Value := .pointer (some (Addr.mk b 0 none))
abbrev ni (n : Nat) : Value := .int .i64 (n : Int)
abbrev W256 : Nat := 115792089237316195423570985008687907853269984665640564039457584007913129639936
abbrev nv (l : List UInt64) : Nat := dv 18446744073709551616 l
def nds : Nat → Nat → List UInt64
  | 0, _ => []
  | k + 1, n => zi n :: nds k (n / 18446744073709551616)
abbrev nd (n : Nat) : List UInt64 := nds 4 n
theorem nds_len : ∀ (k n : Nat), (nds k n).length = k
  | 0, _ => rfl
  | k + 1, n => by rw [nds, zL, nds_len k]
theorem ofNat_val (n : Nat) : (zi n).toNat = n % 18446744073709551616 := by
  show (Kd 64 n).toNat = n % 18446744073709551616
  rw [J6]
theorem nds_val : ∀ (k n : Nat), dv 18446744073709551616 (nds k n) = n % 18446744073709551616 ^ k
  | 0, n => by rw [Nat.pow_zero, Nat.mod_one]; rfl
  | k + 1, n => by
    rw [nds, dv_cons, nds_val k, ofNat_val, Zh, Zf (18446744073709551616 ^ k), Nat.mod_mul]
theorem w256_pow : 18446744073709551616 ^ 4 = W256 := by decide
theorem nd_val (n : Nat) : nv (nd n) = n % W256 := by rw [nv, nd, nds_val, w256_pow]
theorem nds_dv : ∀ (l : List UInt64), nds l.length (dv 18446744073709551616 l) = l
  | [] => rfl
  | x :: r => by
    have hx := lt64 x
    rw [zL, nds, dv_cons]
    have h1 : (x.toNat + 18446744073709551616 * dv 18446744073709551616 r) / 18446744073709551616 = dv 18446744073709551616 r := by omega
    have h2 : zi (x.toNat + 18446744073709551616 * dv 18446744073709551616 r) = x := by
      apply Qy.1
      rw [ofNat_val]
      omega
    rw [h1, h2, nds_dv r]
theorem nds_of {l : List UInt64} {k n : Nat} (hl : l.length = k) (h : dv 18446744073709551616 l = n) : l = nds k n := by rw [← h, ← hl, nds_dv]
theorem nds_mod : ∀ (k n : Nat), nds k (n % 18446744073709551616 ^ k) = nds k n
  | k, n => (nds_of (nds_len k n) (nds_val k n)).symm
theorem nd_mod (n : Nat) : nd (n % W256) = nd n := by rw [← w256_pow]; exact nds_mod 4 n
theorem nd_of {l : List UInt64} {n : Nat} (hl : l.length = 4) (h : nv l = n) : l = nd n := nds_of hl h
theorem dv_lt : ∀ (l : List UInt64), dv 18446744073709551616 l < 18446744073709551616 ^ l.length
  | [] => by decide
  | x :: r => by
    have h1 := dv_lt r
    have h2 := lt64 x
    rw [dv_cons, zL, Zh]
    generalize 18446744073709551616 ^ r.length = q at *
    generalize dv 18446744073709551616 r = d at *
    have : 18446744073709551616 * (d + 1) ≤ 18446744073709551616 * q := Nat.mul_le_mul_left _ h1
    rw [Zf q]
    omega
theorem nv_lt {l : List UInt64} (hl : l.length = 4) : nv l < W256 := by
  have := dv_lt l
  rw [hl, w256_pow] at this
  exact this
theorem nv_inj {l m : List UInt64} (hl : l.length = 4) (hm : m.length = 4) (h : nv l = nv m) : l = m := (nd_of hl h).trans (nd_of hm rfl).symm
theorem nv4 (a b c d : UInt64) : nv [a, b, c, d] = a.toNat + 18446744073709551616 * (b.toNat + 18446744073709551616 * (c.toNat + 18446744073709551616 * d.toNat)) := by
  simp only [nv, dv, Nat.mul_zero, ZP]
def sbF (a b : List UInt64) : Nat → UInt64
  | 0 => 0
  | i + 1 => subHi (zb a i 0) (zb b i 0) (sbF a b i)
def adF (a b : List UInt64) : Nat → UInt64
  | 0 => 0
  | i + 1 => addHi (zb a i 0) (zb b i 0) (adF a b i)
def minL (a b : List UInt64) : List UInt64 := [subLo (zb a 0 0) (zb b 0 0) (sbF a b 0), subLo (zb a 1 0) (zb b 1 0) (sbF a b 1), subLo (zb a 2 0) (zb b 2 0) (sbF a b 2), subLo (zb a 3 0) (zb b 3 0) (sbF a b 3)]
def plusL (a b : List UInt64) : List UInt64 := [addLo (zb a 0 0) (zb b 0 0) (adF a b 0), addLo (zb a 1 0) (zb b 1 0) (adF a b 1), addLo (zb a 2 0) (zb b 2 0) (adF a b 2), addLo (zb a 3 0) (zb b 3 0) (adF a b 3)]
theorem sbF_le (a b : List UInt64) : ∀ i, (sbF a b i).toNat ≤ 1
  | 0 => XP 1
  | _ + 1 => subHi_le
theorem adF_le (a b : List UInt64) : ∀ i, (adF a b i).toNat ≤ 1
  | 0 => XP 1
  | i + 1 => addHi_le (adF_le a b i)
theorem min_eq {a b : List UInt64} (ha : a.length = 4) (hb : b.length = 4) : nv (minL a b) + nv b = nv a + W256 * (sbF a b 4).toNat := by
  match a, ha, b, hb with
  | [a0, a1, a2, a3], _, [b0, b1, b2, b3], _ =>
    have l0 := sbF_le [a0, a1, a2, a3] [b0, b1, b2, b3] 0
    have l1 := sbF_le [a0, a1, a2, a3] [b0, b1, b2, b3] 1
    have l2 := sbF_le [a0, a1, a2, a3] [b0, b1, b2, b3] 2
    have l3 := sbF_le [a0, a1, a2, a3] [b0, b1, b2, b3] 3
    have e0 := sub_val (x := a0) (y := b0) l0
    have e1 := sub_val (x := a1) (y := b1) l1
    have e2 := sub_val (x := a2) (y := b2) l2
    have e3 := sub_val (x := a3) (y := b3) l3
    have z : (sbF [a0, a1, a2, a3] [b0, b1, b2, b3] 0).toNat = 0 := rfl
    rw [minL, nv4, nv4, nv4]
    change _ = _ + 115792089237316195423570985008687907853269984665640564039457584007913129639936 * (subHi a3 b3 (sbF [a0, a1, a2, a3] [b0, b1, b2, b3] 3)).toNat
    simp only [zb, QY, Ys, JB] at *
    change _ = a0.toNat + 18446744073709551616 * (sbF [a0, a1, a2, a3] [b0, b1, b2, b3] 1).toNat at e0
    change _ = a1.toNat + 18446744073709551616 * (sbF [a0, a1, a2, a3] [b0, b1, b2, b3] 2).toNat at e1
    change _ = a2.toNat + 18446744073709551616 * (sbF [a0, a1, a2, a3] [b0, b1, b2, b3] 3).toNat at e2
    omega
theorem plus_eq {a b : List UInt64} (ha : a.length = 4) (hb : b.length = 4) : nv (plusL a b) + W256 * (adF a b 4).toNat = nv a + nv b := by
  match a, ha, b, hb with
  | [a0, a1, a2, a3], _, [b0, b1, b2, b3], _ =>
    have e0 := add_val (x := a0) (y := b0) (c := adF [a0, a1, a2, a3] [b0, b1, b2, b3] 0)
    have e1 := add_val (x := a1) (y := b1) (c := adF [a0, a1, a2, a3] [b0, b1, b2, b3] 1)
    have e2 := add_val (x := a2) (y := b2) (c := adF [a0, a1, a2, a3] [b0, b1, b2, b3] 2)
    have e3 := add_val (x := a3) (y := b3) (c := adF [a0, a1, a2, a3] [b0, b1, b2, b3] 3)
    have z : (adF [a0, a1, a2, a3] [b0, b1, b2, b3] 0).toNat = 0 := rfl
    rw [plusL, nv4, nv4, nv4]
    change _ + 115792089237316195423570985008687907853269984665640564039457584007913129639936 * (addHi a3 b3 (adF [a0, a1, a2, a3] [b0, b1, b2, b3] 3)).toNat = _
    simp only [zb, QY, Ys, JB] at *
    change _ + 18446744073709551616 * (adF [a0, a1, a2, a3] [b0, b1, b2, b3] 1).toNat = _ at e0
    change _ + 18446744073709551616 * (adF [a0, a1, a2, a3] [b0, b1, b2, b3] 2).toNat = _ at e1
    change _ + 18446744073709551616 * (adF [a0, a1, a2, a3] [b0, b1, b2, b3] 3).toNat = _ at e2
    omega
theorem minL_len (a b : List UInt64) : (minL a b).length = 4 := rfl
theorem plusL_len (a b : List UInt64) : (plusL a b).length = 4 := rfl
def u1 (p : Prop) [Decidable p] : UInt64 := if p then 1 else 0
theorem u1_le (p : Prop) [Decidable p] : (u1 p).toNat ≤ 1 := by unfold u1; split <;> decide
theorem u1_val (p : Prop) [Decidable p] : (u1 p).toNat = if p then 1 else 0 := by unfold u1; split <;> rfl
theorem sb_nd {a b : List UInt64} (ha : a.length = 4) (hb : b.length = 4) : sbF a b 4 = u1 (nv a < nv b) := by
  have h := min_eq ha hb
  have h1 := nv_lt ha
  have h2 := nv_lt hb
  have h3 := nv_lt (minL_len a b)
  have h4 := sbF_le a b 4
  simp only [W256] at *
  apply Qy.1
  rw [u1_val]
  split <;> omega
theorem min_nd {a b : List UInt64} (ha : a.length = 4) (hb : b.length = 4) : minL a b = nd (nv a + W256 - nv b) := by
  have h := min_eq ha hb
  have h1 := nv_lt ha
  have h2 := nv_lt hb
  have h3 := nv_lt (minL_len a b)
  have h4 := sbF_le a b 4
  simp only [W256] at *
  refine nv_inj rfl (nds_len _ _) ?_
  rw [nd_val]
  simp only [W256] at *
  omega
theorem ad_nd {a b : List UInt64} (ha : a.length = 4) (hb : b.length = 4) : adF a b 4 = u1 (W256 ≤ nv a + nv b) := by
  have h := plus_eq ha hb
  have h1 := nv_lt ha
  have h2 := nv_lt hb
  have h3 := nv_lt (plusL_len a b)
  have h4 := adF_le a b 4
  simp only [W256] at *
  apply Qy.1
  rw [u1_val]
  split <;> omega
theorem plus_nd {a b : List UInt64} (ha : a.length = 4) (hb : b.length = 4) : plusL a b = nd (nv a + nv b) := by
  have h := plus_eq ha hb
  have h1 := nv_lt ha
  have h2 := nv_lt hb
  have h3 := nv_lt (plusL_len a b)
  have h4 := adF_le a b 4
  simp only [W256] at *
  refine nv_inj rfl (nds_len _ _) ?_
  rw [nd_val]
  simp only [W256] at *
  omega
theorem u1_one (p : Prop) [Decidable p] : (((u1 p).toNat : Int) == (1 : Int)) = decide p := by
  rw [u1_val]
  by_cases h : p
  · rw [if_pos h, decide_eq_true h]; rfl
  · rw [if_neg h, decide_eq_false h]; rfl
theorem less4 (w : World) (ba bb : Nat) (a0 a1 a2 a3 b0 b1 b2 b3 : UInt64) (hH : Heap w [.box ba [zm a0, zm a1, zm a2, zm a3] 24, .box bb [zm b0, zm b1, zm b2, zm b3] 24]) : Calls zB 74 #[pt ba, pt bb] w fun e w' => e = .returned (.bool (decide (nv [a0, a1, a2, a3] < nv [b0, b1, b2, b3]))) ∧ Ev w [.box ba [zm a0, zm a1, zm a2, zm a3] 24, .box bb [zm b0, zm b1, zm b2, zm b3] 24] w' [.box ba [zm a0, zm a1, zm a2, zm a3] 24, .box bb [zm b0, zm b1, zm b2, zm b3] 24] := by
 refine d_0 [(0, pt ba), (1, pt bb)] 28 Tryz.func74 Tryz.ntmps74 (hH) fun E4 E5 E2 => d_s [0,1,4] [] E5 fun _ E6 => d_s [0,1,4,5] [] E6 fun _ E7 => wp_seq <| d_s [0,1,4,5,7] [] E7 fun _ E8 => ?_
 refine wp_block <| Ym ?_
 refine z8 <| d_s [0,1,4,5,7,8] [] E8 fun _ E3 => wp_seq <| c_t E3 ?_
 refine wp_skip <| ze <| wp_seq <| wp_block <| d_s [0,1,4,5,6,7] [] E3 fun _ ER => ?_
 refine r_c (fun ac wo => Env ac 28 [(0, pt ba), (1, pt bb), (4, .bool false), (5, zm (subHi a0 b0 (0 : UInt64))), (7, .int .i64 0)] ∧ Ev w [.box ba [zm a0, zm a1, zm a2, zm a3] 24, .box bb [zm b0, zm b1, zm b2, zm b3] 24] wo [.box ba [zm a0, zm a1, zm a2, zm a3] 24, .box bb [zm b0, zm b1, zm b2, zm b3] 24]) ?_ ?_
 ·
  refine h_s (fun wv => Ev w [.box ba [zm a0, zm a1, zm a2, zm a3] 24, .box bb [zm b0, zm b1, zm b2, zm b3] 24] wv [.box ba [zm a0, zm a1, zm a2, zm a3] 24, .box bb [zm b0, zm b1, zm b2, zm b3] 24]) [] 16 ?_
  have Ec := E2.trans (zN E2.heap)
  refine q_s [0,1,2,3] [] 12 ER (Ec.pk [0, 1]) fun _ ES => q_l 0 4 ES (Ec.pk [0, 1]) fun _ ET => q_s [5,6,7,8] [] 7 ET (Ec.pk [0, 1]) fun _ EU => q_l 1 9 EU (Ec.pk [0, 1]) fun _ EV => q_s [10] [] 5 EV (Ec.pk [0, 1]) fun _ EW => h_ext (d := some 22) (f := 75) (args := #[zm a0, zm b0, zm (0 : UInt64)]) (v := .tuple #[zm (subLo a0 b0 (0 : UInt64)), zm (subHi a0 b0 (0 : UInt64))]) EW 11 (by kernel_rfl) (Go.Dbr.ext_sub64 Tryz.func75 (by kernel_rfl) (by kernel_rfl) (by kernel_rfl) (by kernel_rfl) a0 b0 (0 : UInt64) (by decide)) (by kernel_rfl) rfl (fun _ => Ec.pk [0, 1]) fun _ EX => ?_
  refine q_s [12,13,14,15] [] 0 EX (Ec.pk [0, 1]) fun _ EY => ?_
  exact h_e ⟨EY.sb, Ec.pk [0, 1]⟩
 rintro _ _ ⟨EZ, Ej⟩
 refine zw <| ze <| d_r [0,1,4,5,7] [] EZ fun _ E0 => ?_
 refine ze <| z8 <| d_s [0,1,4,5,7,8] [] E0 fun _ Ek => wp_seq <| c_t Ek ?_
 refine wp_skip <| ze <| wp_seq <| wp_block <| d_s [0,1,4,5,6,7] [] Ek fun _ E1 => ?_
 refine r_c (fun ac wo => Env ac 28 [(0, pt ba), (1, pt bb), (4, .bool false), (5, zm (subHi a1 b1 (subHi a0 b0 (0 : UInt64)))), (7, .int .i64 1)] ∧ Ev w [.box ba [zm a0, zm a1, zm a2, zm a3] 24, .box bb [zm b0, zm b1, zm b2, zm b3] 24] wo [.box ba [zm a0, zm a1, zm a2, zm a3] 24, .box bb [zm b0, zm b1, zm b2, zm b3] 24]) ?_ ?_
 ·
  refine h_s (fun wv => Ev w [.box ba [zm a0, zm a1, zm a2, zm a3] 24, .box bb [zm b0, zm b1, zm b2, zm b3] 24] wv [.box ba [zm a0, zm a1, zm a2, zm a3] 24, .box bb [zm b0, zm b1, zm b2, zm b3] 24]) [] 16 ?_
  have Ed := Ej.trans (zN Ej.heap)
  refine q_s [0,1,2,3] [] 12 E1 (Ed.pk [0, 1]) fun _ El => q_l 0 4 El (Ed.pk [0, 1]) fun _ Em => q_s [5,6,7,8] [] 7 Em (Ed.pk [0, 1]) fun _ En => q_l 1 9 En (Ed.pk [0, 1]) fun _ Eo => q_s [10] [] 5 Eo (Ed.pk [0, 1]) fun _ Ep => h_ext (d := some 22) (f := 75) (args := #[zm a1, zm b1, zm (subHi a0 b0 (0 : UInt64))]) (v := .tuple #[zm (subLo a1 b1 (subHi a0 b0 (0 : UInt64))), zm (subHi a1 b1 (subHi a0 b0 (0 : UInt64)))]) Ep 11 (by kernel_rfl) (Go.Dbr.ext_sub64 Tryz.func75 (by kernel_rfl) (by kernel_rfl) (by kernel_rfl) (by kernel_rfl) a1 b1 (subHi a0 b0 (0 : UInt64)) (subHi_le)) (by kernel_rfl) rfl (fun _ => Ed.pk [0, 1]) fun _ Eq => ?_
  refine q_s [12,13,14,15] [] 0 Eq (Ed.pk [0, 1]) fun _ Er => ?_
  exact h_e ⟨Er.sb, Ed.pk [0, 1]⟩
 rintro _ _ ⟨Es, Ee⟩
 refine zw <| ze <| d_r [0,1,4,5,7] [] Es fun _ Et => ?_
 refine ze <| z8 <| d_s [0,1,4,5,7,8] [] Et fun _ Ef => wp_seq <| c_t Ef ?_
 refine wp_skip <| ze <| wp_seq <| wp_block <| d_s [0,1,4,5,6,7] [] Ef fun _ Eu => ?_
 refine r_c (fun ac wo => Env ac 28 [(0, pt ba), (1, pt bb), (4, .bool false), (5, zm (subHi a2 b2 (subHi a1 b1 (subHi a0 b0 (0 : UInt64))))), (7, .int .i64 2)] ∧ Ev w [.box ba [zm a0, zm a1, zm a2, zm a3] 24, .box bb [zm b0, zm b1, zm b2, zm b3] 24] wo [.box ba [zm a0, zm a1, zm a2, zm a3] 24, .box bb [zm b0, zm b1, zm b2, zm b3] 24]) ?_ ?_
 ·
  refine h_s (fun wv => Ev w [.box ba [zm a0, zm a1, zm a2, zm a3] 24, .box bb [zm b0, zm b1, zm b2, zm b3] 24] wv [.box ba [zm a0, zm a1, zm a2, zm a3] 24, .box bb [zm b0, zm b1, zm b2, zm b3] 24]) [] 16 ?_
  have Ea := Ee.trans (zN Ee.heap)
  refine q_s [0,1,2,3] [] 12 Eu (Ea.pk [0, 1]) fun _ Ew => q_l 0 4 Ew (Ea.pk [0, 1]) fun _ Ex => q_s [5,6,7,8] [] 7 Ex (Ea.pk [0, 1]) fun _ Ey => q_l 1 9 Ey (Ea.pk [0, 1]) fun _ Ez => q_s [10] [] 5 Ez (Ea.pk [0, 1]) fun _ EA => h_ext (d := some 22) (f := 75) (args := #[zm a2, zm b2, zm (subHi a1 b1 (subHi a0 b0 (0 : UInt64)))]) (v := .tuple #[zm (subLo a2 b2 (subHi a1 b1 (subHi a0 b0 (0 : UInt64)))), zm (subHi a2 b2 (subHi a1 b1 (subHi a0 b0 (0 : UInt64))))]) EA 11 (by kernel_rfl) (Go.Dbr.ext_sub64 Tryz.func75 (by kernel_rfl) (by kernel_rfl) (by kernel_rfl) (by kernel_rfl) a2 b2 (subHi a1 b1 (subHi a0 b0 (0 : UInt64))) (subHi_le)) (by kernel_rfl) rfl (fun _ => Ea.pk [0, 1]) fun _ EB => ?_
  refine q_s [12,13,14,15] [] 0 EB (Ea.pk [0, 1]) fun _ EC => ?_
  exact h_e ⟨EC.sb, Ea.pk [0, 1]⟩
 rintro _ _ ⟨ED, Eg⟩
 refine zw <| ze <| d_r [0,1,4,5,7] [] ED fun _ EE => ?_
 refine ze <| z8 <| d_s [0,1,4,5,7,8] [] EE fun _ Eh => wp_seq <| c_t Eh ?_
 refine wp_skip <| ze <| wp_seq <| wp_block <| d_s [0,1,4,5,6,7] [] Eh fun _ EF => ?_
 refine r_c (fun ac wo => Env ac 28 [(0, pt ba), (1, pt bb), (4, .bool false), (5, zm (subHi a3 b3 (subHi a2 b2 (subHi a1 b1 (subHi a0 b0 (0 : UInt64)))))), (7, .int .i64 3)] ∧ Ev w [.box ba [zm a0, zm a1, zm a2, zm a3] 24, .box bb [zm b0, zm b1, zm b2, zm b3] 24] wo [.box ba [zm a0, zm a1, zm a2, zm a3] 24, .box bb [zm b0, zm b1, zm b2, zm b3] 24]) ?_ ?_
 ·
  refine h_s (fun wv => Ev w [.box ba [zm a0, zm a1, zm a2, zm a3] 24, .box bb [zm b0, zm b1, zm b2, zm b3] 24] wv [.box ba [zm a0, zm a1, zm a2, zm a3] 24, .box bb [zm b0, zm b1, zm b2, zm b3] 24]) [] 16 ?_
  have Eb := Eg.trans (zN Eg.heap)
  refine q_s [0,1,2,3] [] 12 EF (Eb.pk [0, 1]) fun _ EG => q_l 0 4 EG (Eb.pk [0, 1]) fun _ EH => q_s [5,6,7,8] [] 7 EH (Eb.pk [0, 1]) fun _ EI => q_l 1 9 EI (Eb.pk [0, 1]) fun _ EJ => q_s [10] [] 5 EJ (Eb.pk [0, 1]) fun _ EK => h_ext (d := some 22) (f := 75) (args := #[zm a3, zm b3, zm (subHi a2 b2 (subHi a1 b1 (subHi a0 b0 (0 : UInt64))))]) (v := .tuple #[zm (subLo a3 b3 (subHi a2 b2 (subHi a1 b1 (subHi a0 b0 (0 : UInt64))))), zm (subHi a3 b3 (subHi a2 b2 (subHi a1 b1 (subHi a0 b0 (0 : UInt64)))))]) EK 11 (by kernel_rfl) (Go.Dbr.ext_sub64 Tryz.func75 (by kernel_rfl) (by kernel_rfl) (by kernel_rfl) (by kernel_rfl) a3 b3 (subHi a2 b2 (subHi a1 b1 (subHi a0 b0 (0 : UInt64)))) (subHi_le)) (by kernel_rfl) rfl (fun _ => Eb.pk [0, 1]) fun _ EL => ?_
  refine q_s [12,13,14,15] [] 0 EL (Eb.pk [0, 1]) fun _ EM => ?_
  exact h_e ⟨EM.sb, Eb.pk [0, 1]⟩
 rintro _ _ ⟨EN, EO⟩
 refine zw <| ze <| d_r [0,1,4,5,7] [] EN fun _ EP => ?_
 refine ze <| z8 <| d_s [0,1,4,5,7,8] [] EP fun _ Ei => wp_seq <| c_f Ei ?_
 refine wp_exit <| zF <| zF <| zX <| ze <| d_s [0,1,4,5,7] [] Ei fun _ EQ => wp_ret <| d_ret1 (t := 4) (v := .bool (((zk (subHi a3 b3 (subHi a2 b2 (subHi a1 b1 (subHi a0 b0 (0 : UInt64))))) : Nat) : Int) == (1 : Int))) EQ (by kernel_rfl) (by kernel_rfl) ?_
 have e : (((zk (subHi a3 b3 (subHi a2 b2 (subHi a1 b1 (subHi a0 b0 (0 : UInt64))))) : Nat) : Int) == (1 : Int)) = decide (nv [a0, a1, a2, a3] < nv [b0, b1, b2, b3]) := by
  change (((zk (sbF [a0, a1, a2, a3] [b0, b1, b2, b3] 4) : Nat) : Int) == (1 : Int)) = _
  rw [sb_nd rfl rfl, u1_one]
 exact ⟨by rw [e], EO.pk [0, 1]⟩
theorem less_go (w : World) (ba bb : Nat) (a b : List UInt64) (ha : zf a = 4) (hb : zf b = 4) (hH : Heap w [.box ba (zg a) 24, .box bb (zg b) 24]) : Calls zB 74 #[pt ba, pt bb] w fun e w' => e = .returned (.bool (decide (nv a < nv b))) ∧ Ev w [.box ba (zg a) 24, .box bb (zg b) 24] w' [.box ba (zg a) 24, .box bb (zg b) 24] := by
  match a, ha, b, hb with
  | [a0, a1, a2, a3], _, [b0, b1, b2, b3], _ => exact less4 w ba bb a0 a1 a2 a3 b0 b1 b2 b3 hH
theorem minus4 (w : World) (a0 a1 a2 a3 b0 b1 b2 b3 : UInt64) : Calls zB 43 #[.agg #[zm a0, zm a1, zm a2, zm a3], .agg #[zm b0, zm b1, zm b2, zm b3]] w fun e w' => e = .returned (.tuple #[.agg (zc (zg (minL [a0, a1, a2, a3] [b0, b1, b2, b3]))), zm (sbF [a0, a1, a2, a3] [b0, b1, b2, b3] 4)]) ∧ Ev w [] w' [] := by
 refine d_0 [(0, .agg #[zm a0, zm a1, zm a2, zm a3]), (1, .agg #[zm b0, zm b1, zm b2, zm b3])] 27 Tryz.func43 Tryz.ntmps43 (Heap.nil _) fun Hs Ht Hu => wp_seq <| zj <| f_o <| m_m 24 [zm a0, zm a1, zm a2, zm a3] Ht Hu fun _ _ Ef Hv Hw => f_o <| m_m 24 [zm b0, zm b1, zm b2, zm b3] Hv Hw fun _ _ Eg Hx Hb => f_o <| m_z 24 (zg (zd 4 0)) Hx Hb fun _ _ Ea Hc Eq => d_e [2,3,4,5] [] Hc fun _ Hd => ze <| d_s [2,3,4,5,6] [] Hd fun _ He => ?_
 refine wp_seq <| d_s [2,3,4,5,6,8] [] He fun _ Hf => ?_
 refine wp_block <| Ym ?_
 refine z8 <| d_s [2,3,4,5,6,8,9] [] Hf fun _ Er => wp_seq <| c_t Er ?_
 refine wp_skip <| ze <| wp_seq <| wp_block <| d_s [2,3,4,5,6,7,8] [] Er fun _ Hg => ?_
 refine r_c (fun ac wo => Env ac 27 [(2, pt Ef), (3, pt Eg), (4, pt Ea), (5, .int .u64 0), (6, zm (subHi a0 b0 (0 : UInt64))), (8, .int .i64 0)] ∧ Ev w [] wo [.box Ef [zm (subLo a0 b0 (0 : UInt64)), zm a1, zm a2, zm a3] 24, .box Eg [zm b0, zm b1, zm b2, zm b3] 24, .box Ea (zg (zd 4 0)) 24]) ?_ ?_
 ·
  refine h_s (fun wv => Ev w [] wv [.box Ef [zm a0, zm a1, zm a2, zm a3] 24, .box Eg [zm b0, zm b1, zm b2, zm b3] 24]) [13] 15 ?_
  have Ee := Eq.trans (zN Eq.heap)
  refine q_s [0,1,2] [] 12 Hg (Ee.pk [0, 1]) fun _ Hh => q_l 0 3 Hh (Ee.pk [0, 1]) fun _ Hi => q_s [4,5] [] 9 Hi (Ee.pk [0, 1]) fun _ Hj => q_l 1 6 Hj (Ee.pk [0, 1]) fun _ Hk => q_s [7] [] 7 Hk (Ee.pk [0, 1]) fun _ Hl => h_ext (d := some 20) (f := 75) (args := #[zm a0, zm b0, zm (0 : UInt64)]) (v := .tuple #[zm (subLo a0 b0 (0 : UInt64)), zm (subHi a0 b0 (0 : UInt64))]) Hl 8 (by kernel_rfl) (Go.Dbr.ext_sub64 Tryz.func75 (by kernel_rfl) (by kernel_rfl) (by kernel_rfl) (by kernel_rfl) a0 b0 (0 : UInt64) (by decide)) (by kernel_rfl) rfl (fun _ => Ee.pk [0, 1]) fun _ Hm => ?_
  refine q_s [9,10,11,12] [] 2 Hm (Ee.pk [0, 1]) fun _ Hn => q_t 13 ?_
  refine m_s 0 [.box Ef [zm (subLo a0 b0 (0 : UInt64)), zm a1, zm a2, zm a3] 24, .box Eg [zm b0, zm b1, zm b2, zm b3] 24, .box Ea (zg (zd 4 0)) 24] Hn Ee fun _ _ Ho Hp => ⟨q_y, ?_⟩
  refine q_n [14] [] 0 Ho fun _ Hq => ?_
  exact h_e ⟨Hq.sb, Hp.pk [0, 1, 2]⟩
 rintro _ _ ⟨Hr, Eh⟩
 refine zw <| ze <| d_r [2,3,4,5,6,8] [] Hr fun _ Es => ?_
 refine ze <| z8 <| d_s [2,3,4,5,6,8,9] [] Es fun _ Ei => wp_seq <| c_t Ei ?_
 refine wp_skip <| ze <| wp_seq <| wp_block <| d_s [2,3,4,5,6,7,8] [] Ei fun _ Et => ?_
 refine r_c (fun ac wo => Env ac 27 [(2, pt Ef), (3, pt Eg), (4, pt Ea), (5, .int .u64 0), (6, zm (subHi a1 b1 (subHi a0 b0 (0 : UInt64)))), (8, .int .i64 1)] ∧ Ev w [] wo [.box Ef [zm (subLo a0 b0 (0 : UInt64)), zm (subLo a1 b1 (subHi a0 b0 (0 : UInt64))), zm a2, zm a3] 24, .box Eg [zm b0, zm b1, zm b2, zm b3] 24, .box Ea (zg (zd 4 0)) 24]) ?_ ?_
 ·
  refine h_s (fun wv => Ev w [] wv [.box Ef [zm (subLo a0 b0 (0 : UInt64)), zm a1, zm a2, zm a3] 24, .box Eg [zm b0, zm b1, zm b2, zm b3] 24]) [13] 15 ?_
  have Eb := Eh.trans (zN Eh.heap)
  refine q_s [0,1,2] [] 12 Et (Eb.pk [0, 1]) fun _ Eu => q_l 0 3 Eu (Eb.pk [0, 1]) fun _ Ew => q_s [4,5] [] 9 Ew (Eb.pk [0, 1]) fun _ Ex => q_l 1 6 Ex (Eb.pk [0, 1]) fun _ Ey => q_s [7] [] 7 Ey (Eb.pk [0, 1]) fun _ Ez => h_ext (d := some 20) (f := 75) (args := #[zm a1, zm b1, zm (subHi a0 b0 (0 : UInt64))]) (v := .tuple #[zm (subLo a1 b1 (subHi a0 b0 (0 : UInt64))), zm (subHi a1 b1 (subHi a0 b0 (0 : UInt64)))]) Ez 8 (by kernel_rfl) (Go.Dbr.ext_sub64 Tryz.func75 (by kernel_rfl) (by kernel_rfl) (by kernel_rfl) (by kernel_rfl) a1 b1 (subHi a0 b0 (0 : UInt64)) (subHi_le)) (by kernel_rfl) rfl (fun _ => Eb.pk [0, 1]) fun _ EA => ?_
  refine q_s [9,10,11,12] [] 2 EA (Eb.pk [0, 1]) fun _ EB => q_t 13 ?_
  refine m_s 0 [.box Ef [zm (subLo a0 b0 (0 : UInt64)), zm (subLo a1 b1 (subHi a0 b0 (0 : UInt64))), zm a2, zm a3] 24, .box Eg [zm b0, zm b1, zm b2, zm b3] 24, .box Ea (zg (zd 4 0)) 24] EB Eb fun _ _ EC ED => ⟨q_y, ?_⟩
  refine q_n [14] [] 0 EC fun _ EE => ?_
  exact h_e ⟨EE.sb, ED.pk [0, 1, 2]⟩
 rintro _ _ ⟨EF, Ej⟩
 refine zw <| ze <| d_r [2,3,4,5,6,8] [] EF fun _ EG => ?_
 refine ze <| z8 <| d_s [2,3,4,5,6,8,9] [] EG fun _ Ek => wp_seq <| c_t Ek ?_
 refine wp_skip <| ze <| wp_seq <| wp_block <| d_s [2,3,4,5,6,7,8] [] Ek fun _ EH => ?_
 refine r_c (fun ac wo => Env ac 27 [(2, pt Ef), (3, pt Eg), (4, pt Ea), (5, .int .u64 0), (6, zm (subHi a2 b2 (subHi a1 b1 (subHi a0 b0 (0 : UInt64))))), (8, .int .i64 2)] ∧ Ev w [] wo [.box Ef [zm (subLo a0 b0 (0 : UInt64)), zm (subLo a1 b1 (subHi a0 b0 (0 : UInt64))), zm (subLo a2 b2 (subHi a1 b1 (subHi a0 b0 (0 : UInt64)))), zm a3] 24, .box Eg [zm b0, zm b1, zm b2, zm b3] 24, .box Ea (zg (zd 4 0)) 24]) ?_ ?_
 ·
  refine h_s (fun wv => Ev w [] wv [.box Ef [zm (subLo a0 b0 (0 : UInt64)), zm (subLo a1 b1 (subHi a0 b0 (0 : UInt64))), zm a2, zm a3] 24, .box Eg [zm b0, zm b1, zm b2, zm b3] 24]) [13] 15 ?_
  have Ec := Ej.trans (zN Ej.heap)
  refine q_s [0,1,2] [] 12 EH (Ec.pk [0, 1]) fun _ EI => q_l 0 3 EI (Ec.pk [0, 1]) fun _ EJ => q_s [4,5] [] 9 EJ (Ec.pk [0, 1]) fun _ EK => q_l 1 6 EK (Ec.pk [0, 1]) fun _ EL => q_s [7] [] 7 EL (Ec.pk [0, 1]) fun _ EM => h_ext (d := some 20) (f := 75) (args := #[zm a2, zm b2, zm (subHi a1 b1 (subHi a0 b0 (0 : UInt64)))]) (v := .tuple #[zm (subLo a2 b2 (subHi a1 b1 (subHi a0 b0 (0 : UInt64)))), zm (subHi a2 b2 (subHi a1 b1 (subHi a0 b0 (0 : UInt64))))]) EM 8 (by kernel_rfl) (Go.Dbr.ext_sub64 Tryz.func75 (by kernel_rfl) (by kernel_rfl) (by kernel_rfl) (by kernel_rfl) a2 b2 (subHi a1 b1 (subHi a0 b0 (0 : UInt64))) (subHi_le)) (by kernel_rfl) rfl (fun _ => Ec.pk [0, 1]) fun _ EN => ?_
  refine q_s [9,10,11,12] [] 2 EN (Ec.pk [0, 1]) fun _ EO => q_t 13 ?_
  refine m_s 0 [.box Ef [zm (subLo a0 b0 (0 : UInt64)), zm (subLo a1 b1 (subHi a0 b0 (0 : UInt64))), zm (subLo a2 b2 (subHi a1 b1 (subHi a0 b0 (0 : UInt64)))), zm a3] 24, .box Eg [zm b0, zm b1, zm b2, zm b3] 24, .box Ea (zg (zd 4 0)) 24] EO Ec fun _ _ EP EQ => ⟨q_y, ?_⟩
  refine q_n [14] [] 0 EP fun _ ER => ?_
  exact h_e ⟨ER.sb, EQ.pk [0, 1, 2]⟩
 rintro _ _ ⟨ES, El⟩
 refine zw <| ze <| d_r [2,3,4,5,6,8] [] ES fun _ ET => ?_
 refine ze <| z8 <| d_s [2,3,4,5,6,8,9] [] ET fun _ Em => wp_seq <| c_t Em ?_
 refine wp_skip <| ze <| wp_seq <| wp_block <| d_s [2,3,4,5,6,7,8] [] Em fun _ EU => ?_
 refine r_c (fun ac wo => Env ac 27 [(2, pt Ef), (3, pt Eg), (4, pt Ea), (5, .int .u64 0), (6, zm (subHi a3 b3 (subHi a2 b2 (subHi a1 b1 (subHi a0 b0 (0 : UInt64)))))), (8, .int .i64 3)] ∧ Ev w [] wo [.box Ef [zm (subLo a0 b0 (0 : UInt64)), zm (subLo a1 b1 (subHi a0 b0 (0 : UInt64))), zm (subLo a2 b2 (subHi a1 b1 (subHi a0 b0 (0 : UInt64)))), zm (subLo a3 b3 (subHi a2 b2 (subHi a1 b1 (subHi a0 b0 (0 : UInt64)))))] 24, .box Eg [zm b0, zm b1, zm b2, zm b3] 24, .box Ea (zg (zd 4 0)) 24]) ?_ ?_
 ·
  refine h_s (fun wv => Ev w [] wv [.box Ef [zm (subLo a0 b0 (0 : UInt64)), zm (subLo a1 b1 (subHi a0 b0 (0 : UInt64))), zm (subLo a2 b2 (subHi a1 b1 (subHi a0 b0 (0 : UInt64)))), zm a3] 24, .box Eg [zm b0, zm b1, zm b2, zm b3] 24]) [13] 15 ?_
  have Ed := El.trans (zN El.heap)
  refine q_s [0,1,2] [] 12 EU (Ed.pk [0, 1]) fun _ EV => q_l 0 3 EV (Ed.pk [0, 1]) fun _ EW => q_s [4,5] [] 9 EW (Ed.pk [0, 1]) fun _ EX => q_l 1 6 EX (Ed.pk [0, 1]) fun _ EY => q_s [7] [] 7 EY (Ed.pk [0, 1]) fun _ EZ => h_ext (d := some 20) (f := 75) (args := #[zm a3, zm b3, zm (subHi a2 b2 (subHi a1 b1 (subHi a0 b0 (0 : UInt64))))]) (v := .tuple #[zm (subLo a3 b3 (subHi a2 b2 (subHi a1 b1 (subHi a0 b0 (0 : UInt64))))), zm (subHi a3 b3 (subHi a2 b2 (subHi a1 b1 (subHi a0 b0 (0 : UInt64)))))]) EZ 8 (by kernel_rfl) (Go.Dbr.ext_sub64 Tryz.func75 (by kernel_rfl) (by kernel_rfl) (by kernel_rfl) (by kernel_rfl) a3 b3 (subHi a2 b2 (subHi a1 b1 (subHi a0 b0 (0 : UInt64)))) (subHi_le)) (by kernel_rfl) rfl (fun _ => Ed.pk [0, 1]) fun _ E0 => ?_
  refine q_s [9,10,11,12] [] 2 E0 (Ed.pk [0, 1]) fun _ E1 => q_t 13 ?_
  refine m_s 0 [.box Ef [zm (subLo a0 b0 (0 : UInt64)), zm (subLo a1 b1 (subHi a0 b0 (0 : UInt64))), zm (subLo a2 b2 (subHi a1 b1 (subHi a0 b0 (0 : UInt64)))), zm (subLo a3 b3 (subHi a2 b2 (subHi a1 b1 (subHi a0 b0 (0 : UInt64)))))] 24, .box Eg [zm b0, zm b1, zm b2, zm b3] 24, .box Ea (zg (zd 4 0)) 24] E1 Ed fun _ _ E2 E3 => ⟨q_y, ?_⟩
  refine q_n [14] [] 0 E2 fun _ E4 => ?_
  exact h_e ⟨E4.sb, E3.pk [0, 1, 2]⟩
 rintro _ _ ⟨E5, En⟩
 refine zw <| ze <| d_r [2,3,4,5,6,8] [] E5 fun _ E6 => ?_
 refine ze <| z8 <| d_s [2,3,4,5,6,8,9] [] E6 fun _ Eo => wp_seq <| c_f Eo ?_
 refine wp_exit <| zF <| zF <| zX <| ze <| wp_seq <| zj <| f_o <| m_a 0 0 4 [zm (subLo a0 b0 (0 : UInt64)), zm (subLo a1 b1 (subHi a0 b0 (0 : UInt64))), zm (subLo a2 b2 (subHi a1 b1 (subHi a0 b0 (0 : UInt64)))), zm (subLo a3 b3 (subHi a2 b2 (subHi a1 b1 (subHi a0 b0 (0 : UInt64)))))] Eo En rfl rfl rfl fun _ E7 => d_k [2,3,4,5,6,8,25,26] [] 2 E7 fun _ E8 => f_o <| m_gw 2 4 [zm (subLo a0 b0 (0 : UInt64)), zm (subLo a1 b1 (subHi a0 b0 (0 : UInt64))), zm (subLo a2 b2 (subHi a1 b1 (subHi a0 b0 (0 : UInt64)))), zm (subLo a3 b3 (subHi a2 b2 (subHi a1 b1 (subHi a0 b0 (0 : UInt64)))))] _ E8 En rfl rfl (za (zh)) (one_all (by kernel_rfl)) rfl fun _ _ E9 Ep => d_e [2,3,4,5,6,8] [] E9 fun _ Ha => ze <| wp_ret <| d_cell_tmp (v := .agg #[zm (subLo a0 b0 (0 : UInt64)), zm (subLo a1 b1 (subHi a0 b0 (0 : UInt64))), zm (subLo a2 b2 (subHi a1 b1 (subHi a0 b0 (0 : UInt64)))), zm (subLo a3 b3 (subHi a2 b2 (subHi a1 b1 (subHi a0 b0 (0 : UInt64)))))]) (x := zm (subHi a3 b3 (subHi a2 b2 (subHi a1 b1 (subHi a0 b0 (0 : UInt64)))))) (t := 4) (T := 24) (ad := ⟨Ea, 0, none⟩) (u := 5) Ha (by kernel_rfl) (by kernel_rfl) (zC (t := 24) (k := 2) (off := 0) (m := 4) (xs := [zm (subLo a0 b0 (0 : UInt64)), zm (subLo a1 b1 (subHi a0 b0 (0 : UInt64))), zm (subLo a2 b2 (subHi a1 b1 (subHi a0 b0 (0 : UInt64)))), zm (subLo a3 b3 (subHi a2 b2 (subHi a1 b1 (subHi a0 b0 (0 : UInt64)))))]) Ep rfl rfl rfl (by kernel_rfl) (by kernel_rfl)) (by kernel_rfl) ?_
 exact ⟨rfl, Ep.pk []⟩
theorem minus_go (w : World) (a b : List UInt64) (ha : zf a = 4) (hb : zf b = 4) : Calls zB 43 #[.agg (zc (zg a)), .agg (zc (zg b))] w fun e w' => e = .returned (.tuple #[.agg (zc (zg (nd (nv a + W256 - nv b)))), zm (u1 (nv a < nv b))]) ∧ Ev w [] w' [] := by
  rw [← min_nd ha hb, ← sb_nd ha hb]
  match a, ha, b, hb with
  | [a0, a1, a2, a3], _, [b0, b1, b2, b3], _ => exact minus4 w a0 a1 a2 a3 b0 b1 b2 b3
theorem plus4 (w : World) (a0 a1 a2 a3 b0 b1 b2 b3 : UInt64) : Calls zB 84 #[.agg #[zm a0, zm a1, zm a2, zm a3], .agg #[zm b0, zm b1, zm b2, zm b3]] w fun e w' => e = .returned (.tuple #[.agg (zc (zg (plusL [a0, a1, a2, a3] [b0, b1, b2, b3]))), zm (adF [a0, a1, a2, a3] [b0, b1, b2, b3] 4)]) ∧ Ev w [] w' [] := by
 refine d_0 [(0, .agg #[zm a0, zm a1, zm a2, zm a3]), (1, .agg #[zm b0, zm b1, zm b2, zm b3])] 27 Tryz.func84 Tryz.ntmps84 (Heap.nil _) fun Hs Ht Hu => wp_seq <| zj <| f_o <| m_m 24 [zm a0, zm a1, zm a2, zm a3] Ht Hu fun _ _ Ef Hv Hw => f_o <| m_m 24 [zm b0, zm b1, zm b2, zm b3] Hv Hw fun _ _ Eg Hx Hb => f_o <| m_z 24 (zg (zd 4 0)) Hx Hb fun _ _ Ea Hc Eq => d_e [2,3,4,5] [] Hc fun _ Hd => ze <| d_s [2,3,4,5,6] [] Hd fun _ He => ?_
 refine wp_seq <| d_s [2,3,4,5,6,8] [] He fun _ Hf => ?_
 refine wp_block <| Ym ?_
 refine z8 <| d_s [2,3,4,5,6,8,9] [] Hf fun _ Er => wp_seq <| c_t Er ?_
 refine wp_skip <| ze <| wp_seq <| wp_block <| d_s [2,3,4,5,6,7,8] [] Er fun _ Hg => ?_
 refine r_c (fun ac wo => Env ac 27 [(2, pt Ef), (3, pt Eg), (4, pt Ea), (5, .int .u64 0), (6, zm (addHi a0 b0 (0 : UInt64))), (8, .int .i64 0)] ∧ Ev w [] wo [.box Ef [zm (addLo a0 b0 (0 : UInt64)), zm a1, zm a2, zm a3] 24, .box Eg [zm b0, zm b1, zm b2, zm b3] 24, .box Ea (zg (zd 4 0)) 24]) ?_ ?_
 ·
  refine h_s (fun wv => Ev w [] wv [.box Ef [zm a0, zm a1, zm a2, zm a3] 24, .box Eg [zm b0, zm b1, zm b2, zm b3] 24]) [13] 15 ?_
  have Ee := Eq.trans (zN Eq.heap)
  refine q_s [0,1,2] [] 12 Hg (Ee.pk [0, 1]) fun _ Hh => q_l 0 3 Hh (Ee.pk [0, 1]) fun _ Hi => q_s [4,5] [] 9 Hi (Ee.pk [0, 1]) fun _ Hj => q_l 1 6 Hj (Ee.pk [0, 1]) fun _ Hk => q_s [7] [] 7 Hk (Ee.pk [0, 1]) fun _ Hl => h_ext (d := some 20) (f := 83) (args := #[zm a0, zm b0, zm (0 : UInt64)]) (v := .tuple #[zm (addLo a0 b0 (0 : UInt64)), zm (addHi a0 b0 (0 : UInt64))]) Hl 8 (by kernel_rfl) (Go.Dbr.ext_add64 Tryz.func83 (by kernel_rfl) (by kernel_rfl) (by kernel_rfl) (by kernel_rfl) a0 b0 (0 : UInt64) (by decide)) (by kernel_rfl) rfl (fun _ => Ee.pk [0, 1]) fun _ Hm => ?_
  refine q_s [9,10,11,12] [] 2 Hm (Ee.pk [0, 1]) fun _ Hn => q_t 13 ?_
  refine m_s 0 [.box Ef [zm (addLo a0 b0 (0 : UInt64)), zm a1, zm a2, zm a3] 24, .box Eg [zm b0, zm b1, zm b2, zm b3] 24, .box Ea (zg (zd 4 0)) 24] Hn Ee fun _ _ Ho Hp => ⟨q_y, ?_⟩
  refine q_n [14] [] 0 Ho fun _ Hq => ?_
  exact h_e ⟨Hq.sb, Hp.pk [0, 1, 2]⟩
 rintro _ _ ⟨Hr, Eh⟩
 refine zw <| ze <| d_r [2,3,4,5,6,8] [] Hr fun _ Es => ?_
 refine ze <| z8 <| d_s [2,3,4,5,6,8,9] [] Es fun _ Ei => wp_seq <| c_t Ei ?_
 refine wp_skip <| ze <| wp_seq <| wp_block <| d_s [2,3,4,5,6,7,8] [] Ei fun _ Et => ?_
 refine r_c (fun ac wo => Env ac 27 [(2, pt Ef), (3, pt Eg), (4, pt Ea), (5, .int .u64 0), (6, zm (addHi a1 b1 (addHi a0 b0 (0 : UInt64)))), (8, .int .i64 1)] ∧ Ev w [] wo [.box Ef [zm (addLo a0 b0 (0 : UInt64)), zm (addLo a1 b1 (addHi a0 b0 (0 : UInt64))), zm a2, zm a3] 24, .box Eg [zm b0, zm b1, zm b2, zm b3] 24, .box Ea (zg (zd 4 0)) 24]) ?_ ?_
 ·
  refine h_s (fun wv => Ev w [] wv [.box Ef [zm (addLo a0 b0 (0 : UInt64)), zm a1, zm a2, zm a3] 24, .box Eg [zm b0, zm b1, zm b2, zm b3] 24]) [13] 15 ?_
  have Eb := Eh.trans (zN Eh.heap)
  refine q_s [0,1,2] [] 12 Et (Eb.pk [0, 1]) fun _ Eu => q_l 0 3 Eu (Eb.pk [0, 1]) fun _ Ew => q_s [4,5] [] 9 Ew (Eb.pk [0, 1]) fun _ Ex => q_l 1 6 Ex (Eb.pk [0, 1]) fun _ Ey => q_s [7] [] 7 Ey (Eb.pk [0, 1]) fun _ Ez => h_ext (d := some 20) (f := 83) (args := #[zm a1, zm b1, zm (addHi a0 b0 (0 : UInt64))]) (v := .tuple #[zm (addLo a1 b1 (addHi a0 b0 (0 : UInt64))), zm (addHi a1 b1 (addHi a0 b0 (0 : UInt64)))]) Ez 8 (by kernel_rfl) (Go.Dbr.ext_add64 Tryz.func83 (by kernel_rfl) (by kernel_rfl) (by kernel_rfl) (by kernel_rfl) a1 b1 (addHi a0 b0 (0 : UInt64)) (addHi_le (by decide))) (by kernel_rfl) rfl (fun _ => Eb.pk [0, 1]) fun _ EA => ?_
  refine q_s [9,10,11,12] [] 2 EA (Eb.pk [0, 1]) fun _ EB => q_t 13 ?_
  refine m_s 0 [.box Ef [zm (addLo a0 b0 (0 : UInt64)), zm (addLo a1 b1 (addHi a0 b0 (0 : UInt64))), zm a2, zm a3] 24, .box Eg [zm b0, zm b1, zm b2, zm b3] 24, .box Ea (zg (zd 4 0)) 24] EB Eb fun _ _ EC ED => ⟨q_y, ?_⟩
  refine q_n [14] [] 0 EC fun _ EE => ?_
  exact h_e ⟨EE.sb, ED.pk [0, 1, 2]⟩
 rintro _ _ ⟨EF, Ej⟩
 refine zw <| ze <| d_r [2,3,4,5,6,8] [] EF fun _ EG => ?_
 refine ze <| z8 <| d_s [2,3,4,5,6,8,9] [] EG fun _ Ek => wp_seq <| c_t Ek ?_
 refine wp_skip <| ze <| wp_seq <| wp_block <| d_s [2,3,4,5,6,7,8] [] Ek fun _ EH => ?_
 refine r_c (fun ac wo => Env ac 27 [(2, pt Ef), (3, pt Eg), (4, pt Ea), (5, .int .u64 0), (6, zm (addHi a2 b2 (addHi a1 b1 (addHi a0 b0 (0 : UInt64))))), (8, .int .i64 2)] ∧ Ev w [] wo [.box Ef [zm (addLo a0 b0 (0 : UInt64)), zm (addLo a1 b1 (addHi a0 b0 (0 : UInt64))), zm (addLo a2 b2 (addHi a1 b1 (addHi a0 b0 (0 : UInt64)))), zm a3] 24, .box Eg [zm b0, zm b1, zm b2, zm b3] 24, .box Ea (zg (zd 4 0)) 24]) ?_ ?_
 ·
  refine h_s (fun wv => Ev w [] wv [.box Ef [zm (addLo a0 b0 (0 : UInt64)), zm (addLo a1 b1 (addHi a0 b0 (0 : UInt64))), zm a2, zm a3] 24, .box Eg [zm b0, zm b1, zm b2, zm b3] 24]) [13] 15 ?_
  have Ec := Ej.trans (zN Ej.heap)
  refine q_s [0,1,2] [] 12 EH (Ec.pk [0, 1]) fun _ EI => q_l 0 3 EI (Ec.pk [0, 1]) fun _ EJ => q_s [4,5] [] 9 EJ (Ec.pk [0, 1]) fun _ EK => q_l 1 6 EK (Ec.pk [0, 1]) fun _ EL => q_s [7] [] 7 EL (Ec.pk [0, 1]) fun _ EM => h_ext (d := some 20) (f := 83) (args := #[zm a2, zm b2, zm (addHi a1 b1 (addHi a0 b0 (0 : UInt64)))]) (v := .tuple #[zm (addLo a2 b2 (addHi a1 b1 (addHi a0 b0 (0 : UInt64)))), zm (addHi a2 b2 (addHi a1 b1 (addHi a0 b0 (0 : UInt64))))]) EM 8 (by kernel_rfl) (Go.Dbr.ext_add64 Tryz.func83 (by kernel_rfl) (by kernel_rfl) (by kernel_rfl) (by kernel_rfl) a2 b2 (addHi a1 b1 (addHi a0 b0 (0 : UInt64))) (addHi_le (addHi_le (by decide)))) (by kernel_rfl) rfl (fun _ => Ec.pk [0, 1]) fun _ EN => ?_
  refine q_s [9,10,11,12] [] 2 EN (Ec.pk [0, 1]) fun _ EO => q_t 13 ?_
  refine m_s 0 [.box Ef [zm (addLo a0 b0 (0 : UInt64)), zm (addLo a1 b1 (addHi a0 b0 (0 : UInt64))), zm (addLo a2 b2 (addHi a1 b1 (addHi a0 b0 (0 : UInt64)))), zm a3] 24, .box Eg [zm b0, zm b1, zm b2, zm b3] 24, .box Ea (zg (zd 4 0)) 24] EO Ec fun _ _ EP EQ => ⟨q_y, ?_⟩
  refine q_n [14] [] 0 EP fun _ ER => ?_
  exact h_e ⟨ER.sb, EQ.pk [0, 1, 2]⟩
 rintro _ _ ⟨ES, El⟩
 refine zw <| ze <| d_r [2,3,4,5,6,8] [] ES fun _ ET => ?_
 refine ze <| z8 <| d_s [2,3,4,5,6,8,9] [] ET fun _ Em => wp_seq <| c_t Em ?_
 refine wp_skip <| ze <| wp_seq <| wp_block <| d_s [2,3,4,5,6,7,8] [] Em fun _ EU => ?_
 refine r_c (fun ac wo => Env ac 27 [(2, pt Ef), (3, pt Eg), (4, pt Ea), (5, .int .u64 0), (6, zm (addHi a3 b3 (addHi a2 b2 (addHi a1 b1 (addHi a0 b0 (0 : UInt64)))))), (8, .int .i64 3)] ∧ Ev w [] wo [.box Ef [zm (addLo a0 b0 (0 : UInt64)), zm (addLo a1 b1 (addHi a0 b0 (0 : UInt64))), zm (addLo a2 b2 (addHi a1 b1 (addHi a0 b0 (0 : UInt64)))), zm (addLo a3 b3 (addHi a2 b2 (addHi a1 b1 (addHi a0 b0 (0 : UInt64)))))] 24, .box Eg [zm b0, zm b1, zm b2, zm b3] 24, .box Ea (zg (zd 4 0)) 24]) ?_ ?_
 ·
  refine h_s (fun wv => Ev w [] wv [.box Ef [zm (addLo a0 b0 (0 : UInt64)), zm (addLo a1 b1 (addHi a0 b0 (0 : UInt64))), zm (addLo a2 b2 (addHi a1 b1 (addHi a0 b0 (0 : UInt64)))), zm a3] 24, .box Eg [zm b0, zm b1, zm b2, zm b3] 24]) [13] 15 ?_
  have Ed := El.trans (zN El.heap)
  refine q_s [0,1,2] [] 12 EU (Ed.pk [0, 1]) fun _ EV => q_l 0 3 EV (Ed.pk [0, 1]) fun _ EW => q_s [4,5] [] 9 EW (Ed.pk [0, 1]) fun _ EX => q_l 1 6 EX (Ed.pk [0, 1]) fun _ EY => q_s [7] [] 7 EY (Ed.pk [0, 1]) fun _ EZ => h_ext (d := some 20) (f := 83) (args := #[zm a3, zm b3, zm (addHi a2 b2 (addHi a1 b1 (addHi a0 b0 (0 : UInt64))))]) (v := .tuple #[zm (addLo a3 b3 (addHi a2 b2 (addHi a1 b1 (addHi a0 b0 (0 : UInt64))))), zm (addHi a3 b3 (addHi a2 b2 (addHi a1 b1 (addHi a0 b0 (0 : UInt64)))))]) EZ 8 (by kernel_rfl) (Go.Dbr.ext_add64 Tryz.func83 (by kernel_rfl) (by kernel_rfl) (by kernel_rfl) (by kernel_rfl) a3 b3 (addHi a2 b2 (addHi a1 b1 (addHi a0 b0 (0 : UInt64)))) (addHi_le (addHi_le (addHi_le (by decide))))) (by kernel_rfl) rfl (fun _ => Ed.pk [0, 1]) fun _ E0 => ?_
  refine q_s [9,10,11,12] [] 2 E0 (Ed.pk [0, 1]) fun _ E1 => q_t 13 ?_
  refine m_s 0 [.box Ef [zm (addLo a0 b0 (0 : UInt64)), zm (addLo a1 b1 (addHi a0 b0 (0 : UInt64))), zm (addLo a2 b2 (addHi a1 b1 (addHi a0 b0 (0 : UInt64)))), zm (addLo a3 b3 (addHi a2 b2 (addHi a1 b1 (addHi a0 b0 (0 : UInt64)))))] 24, .box Eg [zm b0, zm b1, zm b2, zm b3] 24, .box Ea (zg (zd 4 0)) 24] E1 Ed fun _ _ E2 E3 => ⟨q_y, ?_⟩
  refine q_n [14] [] 0 E2 fun _ E4 => ?_
  exact h_e ⟨E4.sb, E3.pk [0, 1, 2]⟩
 rintro _ _ ⟨E5, En⟩
 refine zw <| ze <| d_r [2,3,4,5,6,8] [] E5 fun _ E6 => ?_
 refine ze <| z8 <| d_s [2,3,4,5,6,8,9] [] E6 fun _ Eo => wp_seq <| c_f Eo ?_
 refine wp_exit <| zF <| zF <| zX <| ze <| wp_seq <| zj <| f_o <| m_a 0 0 4 [zm (addLo a0 b0 (0 : UInt64)), zm (addLo a1 b1 (addHi a0 b0 (0 : UInt64))), zm (addLo a2 b2 (addHi a1 b1 (addHi a0 b0 (0 : UInt64)))), zm (addLo a3 b3 (addHi a2 b2 (addHi a1 b1 (addHi a0 b0 (0 : UInt64)))))] Eo En rfl rfl rfl fun _ E7 => d_k [2,3,4,5,6,8,25,26] [] 2 E7 fun _ E8 => f_o <| m_gw 2 4 [zm (addLo a0 b0 (0 : UInt64)), zm (addLo a1 b1 (addHi a0 b0 (0 : UInt64))), zm (addLo a2 b2 (addHi a1 b1 (addHi a0 b0 (0 : UInt64)))), zm (addLo a3 b3 (addHi a2 b2 (addHi a1 b1 (addHi a0 b0 (0 : UInt64)))))] _ E8 En rfl rfl (za (zh)) (one_all (by kernel_rfl)) rfl fun _ _ E9 Ep => d_e [2,3,4,5,6,8] [] E9 fun _ Ha => ze <| wp_ret <| d_cell_tmp (v := .agg #[zm (addLo a0 b0 (0 : UInt64)), zm (addLo a1 b1 (addHi a0 b0 (0 : UInt64))), zm (addLo a2 b2 (addHi a1 b1 (addHi a0 b0 (0 : UInt64)))), zm (addLo a3 b3 (addHi a2 b2 (addHi a1 b1 (addHi a0 b0 (0 : UInt64)))))]) (x := zm (addHi a3 b3 (addHi a2 b2 (addHi a1 b1 (addHi a0 b0 (0 : UInt64)))))) (t := 4) (T := 24) (ad := ⟨Ea, 0, none⟩) (u := 5) Ha (by kernel_rfl) (by kernel_rfl) (zC (t := 24) (k := 2) (off := 0) (m := 4) (xs := [zm (addLo a0 b0 (0 : UInt64)), zm (addLo a1 b1 (addHi a0 b0 (0 : UInt64))), zm (addLo a2 b2 (addHi a1 b1 (addHi a0 b0 (0 : UInt64)))), zm (addLo a3 b3 (addHi a2 b2 (addHi a1 b1 (addHi a0 b0 (0 : UInt64)))))]) Ep rfl rfl rfl (by kernel_rfl) (by kernel_rfl)) (by kernel_rfl) ?_
 exact ⟨rfl, Ep.pk []⟩
theorem plus_go (w : World) (a b : List UInt64) (ha : zf a = 4) (hb : zf b = 4) : Calls zB 84 #[.agg (zc (zg a)), .agg (zc (zg b))] w fun e w' => e = .returned (.tuple #[.agg (zc (zg (nd (nv a + nv b)))), zm (u1 (W256 ≤ nv a + nv b))]) ∧ Ev w [] w' [] := by
  rw [← plus_nd ha hb, ← ad_nd ha hb]
  match a, ha, b, hb with
  | [a0, a1, a2, a3], _, [b0, b1, b2, b3], _ => exact plus4 w a0 a1 a2 a3 b0 b1 b2 b3
theorem sub_nd {x m : List UInt64} (hx : x.length = 4) (h : nv m ≤ nv x) : nv (nd (nv x + W256 - nv m)) = nv x - nv m := by
  have h1 := nv_lt hx
  rw [nd_val]
  simp only [W256] at *
  omega
theorem mac_val {x y t c : UInt64} : (addLo (addLo (x * y) t 0) c 0).toNat + 18446744073709551616 * (mulHi x y + addHi (x * y) t 0 + addHi (addLo (x * y) t 0) c 0).toNat = x.toNat * y.toNat + t.toNat + c.toNat := by
  have e1 := mul_val (x := x) (y := y)
  have e2 := add_val (x := x * y) (y := t) (c := 0)
  have e3 := add_val (x := addLo (x * y) t 0) (y := c) (c := 0)
  have b := mul_lt x y
  have h1 := lt64 t
  have h2 := lt64 c
  have z : (0 : UInt64).toNat = 0 := rfl
  rw [ZD, ZD]
  generalize x.toNat * y.toNat = p at *
  omega
def dvk (l : List UInt64) : Nat → Nat
  | 0 => 0
  | k + 1 => dvk l k + (zb l k 0).toNat * 18446744073709551616 ^ k
theorem dvk_cons (x : UInt64) (r : List UInt64) : ∀ k, dvk (x :: r) (k + 1) = x.toNat + 18446744073709551616 * dvk r k
  | 0 => by simp [dvk]
  | k + 1 => by
    rw [dvk, dvk_cons x r k, dvk, QM, Zh, Qp, ZX, ← Zq, Zf _ 18446744073709551616]
theorem dvk_all : ∀ (l : List UInt64), dvk l l.length = dv 18446744073709551616 l
  | [] => rfl
  | x :: r => by rw [zL, dvk_cons, dvk_all r]; rfl
theorem dvk4 {l : List UInt64} (h : l.length = 4) : dvk l 4 = nv l := by rw [← h]; exact dvk_all l
theorem dvk8 {l : List UInt64} (h : l.length = 8) : dvk l 8 = dv 18446744073709551616 l := by rw [← h]; exact dvk_all l
theorem set_step {u : List UInt64} {j : Nat} {x y c : UInt64} {P : Nat} (hj : j < u.length) (hv : dv 18446744073709551616 u + c.toNat * 18446744073709551616 ^ j = P) :
    dv 18446744073709551616 (zt u j (addLo (addLo (x * y) (zb u j 0) 0) c 0)) + (mulHi x y + addHi (x * y) (zb u j 0) 0 + addHi (addLo (x * y) (zb u j 0) 0) c 0).toNat * 18446744073709551616 ^ (j + 1) = P + x.toNat * y.toNat * 18446744073709551616 ^ j := by
  have e := dv_set 18446744073709551616 (addLo (addLo (x * y) (zb u j 0) 0) c 0) u j hj
  have m := mac_val (x := x) (y := y) (t := zb u j 0) (c := c)
  rw [Zh, Zf (18446744073709551616 ^ j), ← Zq]
  have m2 := congrArg (· * 18446744073709551616 ^ j) m
  simp only [ZE] at m2
  rw [Zf 18446744073709551616 (zk _)] at m2
  generalize 18446744073709551616 ^ j = q at *
  omega
theorem whole_in {a b u : List UInt64} {i k : Nat} {c : UInt64} (hlu : u.length = 8) (hj : i + k < 8)
    (hv : dv 18446744073709551616 u + c.toNat * 18446744073709551616 ^ (i + k) = nv a * dvk b i + dvk a k * (zb b i 0).toNat * 18446744073709551616 ^ i) :
    dv 18446744073709551616 (zt u (i + k) (addLo (addLo (zb a k 0 * zb b i 0) (zb u (i + k) 0) 0) c 0)) + (mulHi (zb a k 0) (zb b i 0) + addHi (zb a k 0 * zb b i 0) (zb u (i + k) 0) 0 + addHi (addLo (zb a k 0 * zb b i 0) (zb u (i + k) 0) 0) c 0).toNat * 18446744073709551616 ^ (i + (k + 1)) = nv a * dvk b i + dvk a (k + 1) * (zb b i 0).toNat * 18446744073709551616 ^ i := by
  rw [← ZX, set_step (by omega) hv, dvk, ZE, ZE, ZX]
  congr 2
  rw [Nat.pow_add]
  ac_rfl
theorem whole_out {a b u : List UInt64} {i : Nat} {c : UInt64} (ha : a.length = 4) (hlu : u.length = 8) (hi : i < 4) (hz : zb u (i + 4) 0 = 0)
    (hv : dv 18446744073709551616 u + c.toNat * 18446744073709551616 ^ (i + 4) = nv a * dvk b i + dvk a 4 * (zb b i 0).toNat * 18446744073709551616 ^ i) :
    dv 18446744073709551616 (zt u (i + 4) c) = nv a * dvk b (i + 1) := by
  have e := dv_set 18446744073709551616 c u (i + 4) (by omega)
  rw [hz, show (0 : UInt64).toNat = 0 from rfl, Nat.zero_mul, ZP, hv, dvk4 ha] at e
  rw [e, dvk, Qp, Zq]
theorem getD_set_ne {u : List UInt64} {i j : Nat} (x : UInt64) (h : i ≠ j) : zb (zt u i x) j 0 = zb u j 0 := by
  simp only [zT]
  rw [List.getElem?_set_ne h]
theorem zeros8 (j : Nat) : zb (zd 8 (0 : UInt64)) j 0 = 0 := by
  simp only [zT, List.getElem?_replicate]
  split <;> rfl
theorem right_go (w : World) (a m : List UInt64) (ha : zf a = 4) (hm : zf m = 4) (h0 : 0 < nv m) : Calls zB 50 #[.agg (zc (zg a)), .agg (zc (zg m))] w fun e w' => e = .returned (.agg (zc (zg (nd (nv a % nv m))))) ∧ Ev w [] w' [] := by
 refine d_0 [(0, .agg (zc (zg a))), (1, .agg (zc (zg m)))] 14 Tryz.func50 Tryz.ntmps50 (Heap.nil _) fun Ez EA EB => wp_seq <| zj <| f_o <| m_m 24 (zg a) EA EB fun _ _ Ee EC ED => f_o <| m_m 24 (zg m) EC ED fun _ _ Ef EE Eh => f_o <| m_z 24 (zg (zd 4 0)) EE Eh fun _ _ Ea Ei Ej => ?_
 refine f_e <| ze <| wp_seq <| wp_block <| loop_m (fun Ek ac wo => ∃ (x : List UInt64), Ek = (nv x : Nat) ∧ Env ac 14 [(2, pt Ee), (3, pt Ef), (4, pt Ea)] ∧ Ev w [] wo [.box Ee (zg x) 24, .box Ef (zg m) 24, .box Ea (zg (zd 4 0)) 24] ∧ (zf x = 4) ∧ (nv x % nv m = nv a % nv m)) ⟨_, a, rfl, Ei.sb, Ej.pk [0, 1, 2], ha, rfl⟩ ?_
 rintro EF _ _ ⟨x, rfl, El, Em, hx, hxm⟩
 refine wp_seq <| wp_seq <| zj <| f_o <| c_l [0,1] (M := [.box Ee (zg x) 24, .box Ef (zg m) 24]) El Em (fun hM23 => less_go _ Ee Ef x m hx hm hM23) ?_
 rintro _ _ ⟨rfl, En⟩
 refine ⟨_, _, [.box Ee (zg x) 24, .box Ef (zg m) 24, .box Ea (zg (zd 4 0)) 24], rfl, En, by kernel_rfl, fun _ Eo Eb => ?_⟩
 refine d_e [2,3,4,6] [] Eo fun _ Ed => ?_
 refine ze <| Ql Ed (t := !(decide (nv x < nv m))) (by kernel_rfl) (fun Ec => ?_) (fun Ec => ?_)
 ·
  replace Ec : ¬ (nv x < nv m) := by simpa using Ec
  refine wp_skip <| ze <| wp_block <| zj <| f_o <| m_aw 0 4 (zg x) Ed Eb rfl (za hx) fun _ Ep => f_o <| m_aw 1 4 (zg m) Ep Eb rfl (za hm) fun _ Eq => f_o <| c_p Eq Eb (minus_go _ x m hx hm) fun _ _ Er Es => d_k [2,3,4,11] [] 6 Er fun _ Et => f_o <| m_gw 0 4 (zg (nd (nv x + W256 - nv m))) _ Et Es rfl (za (nds_len _ _)) (za hx) (zq _) rfl fun _ _ Eu Ew => f_e <| zw <| ze <| ⟨_, ⟨(nd (nv x + W256 - nv m)), rfl, Eu.sb, Ew.pk [0, 1, 2], nds_len _ _, by rw [sub_nd hx (by omega), ← hxm]; exact (Nat.mod_eq_sub_mod (by omega)).symm⟩, ?_⟩
  rw [sub_nd hx (by omega)]; omega
 replace Ec : nv x < nv m := by simpa using Ec
 refine wp_exit <| zF <| zF <| zX <| ze <| wp_seq <| zj <| f_o <| m_aw 0 4 (zg x) Ed Eb rfl (za hx) fun _ Ex => f_o <| m_gw 2 4 (zg x) [.box Ee (zg x) 24, .box Ef (zg m) 24, .box Ea (zg x) 24] Ex Eb rfl (za hx) (za (zh)) (zq _) rfl fun _ _ Ey Eg => f_e <| ze <| wp_ret <| d_cell1 (v := .agg (zc (zg x))) (t := 4) (T := 24) (ad := ⟨Ea, 0, none⟩) Ey (by kernel_rfl) (by kernel_rfl) (zC (t := 24) (k := 2) (off := 0) (m := 4) (xs := zg x) Eg rfl (zn (za hx)) (za hx) (by kernel_rfl) (by kernel_rfl)) ?_
 have hxe : x = nd (nv a % nv m) := nd_of hx (by rw [← hxm, zQ (by omega)])
 subst hxe
 exact ⟨rfl, Eg.pk []⟩
theorem mul_go (w : World) (x y : UInt64) : Calls zB 82 #[zm x, zm y] w fun e w' => e = .returned (.tuple #[zm (mulHi x y), zm (x * y)]) ∧ Ev w [] w' [] := by
 refine d_0 [(0, zm x), (1, zm y)] 51 Tryz.func82 Tryz.ntmps82 (Heap.nil _) fun Ei Ej Ek => d_s [0,1,4,5] [] Ej fun _ El => d_s [0,1,4,5,6] [(1, g_i .u64 (Zy (x := x) (y := (4294967295 : UInt64)) rfl rfl))] El fun _ Em => d_s [0,1,4,5,6,7] [(1, g_i .u64 (ZC (x := x) (n := 32) rfl (by decide)))] Em fun _ En => d_s [0,1,4,5,6,7,8] [(1, g_i .u64 (Zy (x := y) (y := (4294967295 : UInt64)) rfl rfl))] En fun _ Eo => d_s [0,1,4,5,6,7,8,9] [(1, g_i .u64 (ZC (x := y) (n := 32) rfl (by decide)))] Eo fun _ Ea => ?_
 refine d_s [0,1,4,5,6,7,8,9,10] [(2, g_i .u64 (QK (x := x &&& (4294967295 : UInt64)) (y := y &&& (4294967295 : UInt64)) rfl rfl))] Ea fun _ Eb => d_s [0,1,4,5,6,7,8,9,11] [(2, g_i .u64 (QK (x := x >>> zi 32) (y := y &&& (4294967295 : UInt64)) rfl rfl)), (4, g_i .u64 (ZC (x := (x &&& (4294967295 : UInt64)) * (y &&& (4294967295 : UInt64))) (n := 32) rfl (by decide))), (5, g_i .u64 (Zj (x := (x >>> zi 32) * (y &&& (4294967295 : UInt64))) (y := ((x &&& (4294967295 : UInt64)) * (y &&& (4294967295 : UInt64))) >>> zi 32) rfl rfl))] Eb fun _ Ec => d_s [0,1,4,5,6,7,8,9,11,12] [(1, g_i .u64 (Zy (x := ((x >>> zi 32) * (y &&& (4294967295 : UInt64))) + (((x &&& (4294967295 : UInt64)) * (y &&& (4294967295 : UInt64))) >>> zi 32)) (y := (4294967295 : UInt64)) rfl rfl))] Ec fun _ Ed => d_s [0,1,4,5,6,7,8,9,11,12,13] [(1, g_i .u64 (ZC (x := ((x >>> zi 32) * (y &&& (4294967295 : UInt64))) + (((x &&& (4294967295 : UInt64)) * (y &&& (4294967295 : UInt64))) >>> zi 32)) (n := 32) rfl (by decide)))] Ed fun _ Ee => d_s [0,1,4,5,6,7,8,9,11,12,13] [(3, g_i .u64 (QK (x := x &&& (4294967295 : UInt64)) (y := y >>> zi 32) rfl rfl)), (4, g_i .u64 (Zj (x := (((x >>> zi 32) * (y &&& (4294967295 : UInt64))) + (((x &&& (4294967295 : UInt64)) * (y &&& (4294967295 : UInt64))) >>> zi 32)) &&& (4294967295 : UInt64)) (y := (x &&& (4294967295 : UInt64)) * (y >>> zi 32)) rfl rfl))] Ee fun _ Ef => d_s [0,1,4,5,6,7,8,9,11,12] [(2, g_i .u64 (QK (x := x >>> zi 32) (y := y >>> zi 32) rfl rfl)), (4, g_i .u64 (Zj (x := (x >>> zi 32) * (y >>> zi 32)) (y := (((x >>> zi 32) * (y &&& (4294967295 : UInt64))) + (((x &&& (4294967295 : UInt64)) * (y &&& (4294967295 : UInt64))) >>> zi 32)) >>> zi 32) rfl rfl)), (6, g_i .u64 (ZC (x := ((((x >>> zi 32) * (y &&& (4294967295 : UInt64))) + (((x &&& (4294967295 : UInt64)) * (y &&& (4294967295 : UInt64))) >>> zi 32)) &&& (4294967295 : UInt64)) + ((x &&& (4294967295 : UInt64)) * (y >>> zi 32))) (n := 32) rfl (by decide))), (7, g_i .u64 (Zj (x := ((x >>> zi 32) * (y >>> zi 32)) + ((((x >>> zi 32) * (y &&& (4294967295 : UInt64))) + (((x &&& (4294967295 : UInt64)) * (y &&& (4294967295 : UInt64))) >>> zi 32)) >>> zi 32)) (y := (((((x >>> zi 32) * (y &&& (4294967295 : UInt64))) + (((x &&& (4294967295 : UInt64)) * (y &&& (4294967295 : UInt64))) >>> zi 32)) &&& (4294967295 : UInt64)) + ((x &&& (4294967295 : UInt64)) * (y >>> zi 32))) >>> zi 32) rfl rfl))] Ef fun _ Eg => ?_
 refine d_s [0,1,4,5,6,7,8,9,11,12] [(2, g_i .u64 (QK (x := x) (y := y) rfl rfl))] Eg fun _ Eh => wp_ret <| d_ret2 (t := 4) (u := 5) (v := zm ((((x >>> zi 32) * (y >>> zi 32)) + ((((x >>> zi 32) * (y &&& (4294967295 : UInt64))) + (((x &&& (4294967295 : UInt64)) * (y &&& (4294967295 : UInt64))) >>> zi 32)) >>> zi 32)) + ((((((x >>> zi 32) * (y &&& (4294967295 : UInt64))) + (((x &&& (4294967295 : UInt64)) * (y &&& (4294967295 : UInt64))) >>> zi 32)) &&& (4294967295 : UInt64)) + ((x &&& (4294967295 : UInt64)) * (y >>> zi 32))) >>> zi 32))) (x := zm (x * y)) Eh (by kernel_rfl) (by kernel_rfl) (by kernel_rfl) ?_
 have e : (((x >>> zi 32) * (y >>> zi 32)) + ((((x >>> zi 32) * (y &&& (4294967295 : UInt64))) + (((x &&& (4294967295 : UInt64)) * (y &&& (4294967295 : UInt64))) >>> zi 32)) >>> zi 32)) + ((((((x >>> zi 32) * (y &&& (4294967295 : UInt64))) + (((x &&& (4294967295 : UInt64)) * (y &&& (4294967295 : UInt64))) >>> zi 32)) &&& (4294967295 : UInt64)) + ((x &&& (4294967295 : UInt64)) * (y >>> zi 32))) >>> zi 32) = mulHi x y := mul_high x y
 exact ⟨by rw [e], Ek.pk []⟩
theorem whole_go (w : World) (ba bb : Nat) (a b : List UInt64) (ha : zf a = 4) (hb : zf b = 4) (hH : Heap w [.box ba (zg a) 24, .box bb (zg b) 24]) : Calls zB 81 #[pt ba, pt bb] w fun e w' => e = .returned (.agg (zc (zg (nds 8 (nv a * nv b))))) ∧ Ev w [.box ba (zg a) 24, .box bb (zg b) 24] w' [.box ba (zg a) 24, .box bb (zg b) 24] := by
 refine d_0 [(0, pt ba), (1, pt bb)] 66 Tryz.func81 Tryz.ntmps81 (hH) fun E7 E8 E9 => wp_seq <| zj <| f_o <| m_z 93 (zg (zd 8 0)) E8 E9 fun _ _ Ed Ha Hb => f_e <| ze <| wp_seq <| zj <| f_o <| m_z 93 (zg (zd 8 0)) Ha Hb fun _ _ Eb Hc EU => f_e <| ze <| wp_seq <| wp_seq <| d_r [0,1,4,5,13] [] Hc fun _ EV => ?_
 refine ze <| wp_block <| loop_m (fun EW ac wo => ∃ (i : Nat) (t : List UInt64), EW = (4 - i : Nat) ∧ Env ac 66 [(0, pt ba), (1, pt bb), (4, pt Ed), (5, pt Eb), (13, ni i)] ∧ Ev w [.box ba (zg a) 24, .box bb (zg b) 24] wo [.box Eb (zg t) 93, .box ba (zg a) 24, .box bb (zg b) 24, .box Ed (zg (zd 8 0)) 93] ∧ (i ≤ 4) ∧ (zf t = 8) ∧ (dv 18446744073709551616 t = nv a * dvk b i) ∧ (∀ j, i + 4 ≤ j → zb t j 0 = 0)) ⟨_, 0, zd 8 0, rfl, EV.sb, EU.pk [3, 0, 1, 2], by omega, (zh), rfl, fun j _ => zeros8 j⟩ ?_
 rintro Hd _ _ ⟨i, t, rfl, EX, Eg, hi, hlt, hv, hz⟩
 refine wp_seq <| d_r [0,1,4,5,13,14] [] EX fun _ Eh => ?_
 refine ze <| wp_seq <| c_d (((i : Nat) : Int) < (4 : Int)) Eh (fun EY => ?_) (fun EY => ?_)
 ·
  refine wp_skip <| ze <| wp_seq <| wp_block <| wp_seq <| d_r [0,1,4,5,6,13] [] Eh fun _ EZ => ze <| wp_seq <| d_r [0,1,4,5,6,7,13] [] EZ fun _ E0 => ze <| wp_seq <| wp_seq <| d_r [0,1,4,5,6,7,13,16] [] E0 fun _ E1 => ?_
  refine ze <| wp_block <| loop_m (fun E2 ac wo => ∃ (k : Nat) (u : List UInt64) (c : UInt64), E2 = (4 - k : Nat) ∧ Env ac 66 [(0, pt ba), (1, pt bb), (4, pt Ed), (5, pt Eb), (6, ni i), (7, zm c), (13, ni i), (16, ni k)] ∧ Ev w [.box ba (zg a) 24, .box bb (zg b) 24] wo [.box Eb (zg u) 93, .box ba (zg a) 24, .box bb (zg b) 24, .box Ed (zg (zd 8 0)) 93] ∧ (k ≤ 4) ∧ (zf u = 8) ∧ (dv 18446744073709551616 u + c.toNat * 18446744073709551616 ^ (i + k) = nv a * dvk b i + dvk a k * (zb b i 0).toNat * 18446744073709551616 ^ i) ∧ (∀ j, i + 4 ≤ j → zb u j 0 = 0)) ⟨_, 0, t, 0, rfl, E1.sb, Eg.pk [0, 1, 2, 3], by omega, hlt, by rw [hv]; simp [dvk], hz⟩ ?_
  rintro He _ _ ⟨k, u, c, rfl, E3, Ei, hk, hlu, hv2, E4⟩
  refine wp_seq <| d_r [0,1,4,5,6,7,13,16,17] [] E3 fun _ Ej => ?_
  refine ze <| wp_seq <| c_d (((k : Nat) : Int) < (4 : Int)) Ej (fun E5 => ?_) (fun E5 => ?_)
  ·
   refine wp_skip <| ze <| wp_seq <| wp_block <| wp_seq <| d_r [0,1,4,5,6,7,8,13,16] [] Ej fun _ E6 => ?_
   refine ze <| wp_seq <| r_c (fun ac wo => Env ac 66 [(0, pt ba), (1, pt bb), (4, pt Ed), (5, pt Eb), (6, ni i), (7, zm c), (8, ni k), (9, zm (mulHi (zb a k 0) (zb b i 0))), (10, zm ((zb a k 0) * (zb b i 0))), (13, ni i), (16, ni k)] ∧ Ev w [.box ba (zg a) 24, .box bb (zg b) 24] wo [.box Eb (zg u) 93, .box ba (zg a) 24, .box bb (zg b) 24, .box Ed (zg (zd 8 0)) 93]) ?_ ?_
   ·
    refine h_s (fun wv => Ev w [.box ba (zg a) 24, .box bb (zg b) 24] wv [.box ba (zg a) 24, .box bb (zg b) 24]) [] 16 ?_
    have Ea := Ei.trans (zN Ei.heap)
    refine q_s [0,1,2] [] 13 E6 (Ea.pk [1, 2]) fun _ Ek => q_f 3 (s := Instr.indexAt 24 (pt ba) (ni k)) (v := .pointer (some ⟨ba, k, none⟩)) Ek (fun _ => zs (e := 22) (sz := 1) (m := 4) (j := k) (o := k) (by kernel_rfl) (by kernel_rfl) (by omega) (by omega) (by omega) _) (fun _ => Ea.pk [1, 2]) fun _ El => ?_
    have Em : k < zf a := by rw [ha]; omega
    refine q_r 4 (s := Instr.loadAt 22 (.pointer (some ⟨ba, k, none⟩))) (v := zm (zb a k 0)) El (fun w hS => Zt (by kernel_rfl) (hS.heap.cell (k := 0) rfl (zO Em))) (Ea.pk [1, 2]) fun _ En => q_s [5,6,7] [] 8 En (Ea.pk [1, 2]) fun _ Eo => q_f 8 (s := Instr.indexAt 24 (pt bb) (ni i)) (v := .pointer (some ⟨bb, i, none⟩)) Eo (fun _ => zs (e := 22) (sz := 1) (m := 4) (j := i) (o := i) (by kernel_rfl) (by kernel_rfl) (by omega) (by omega) (by omega) _) (fun _ => Ea.pk [1, 2]) fun _ Ep => ?_
    have Eq : i < zf b := by rw [hb]; omega
    refine q_r 9 (s := Instr.loadAt 22 (.pointer (some ⟨bb, i, none⟩))) (v := zm (zb b i 0)) Ep (fun w hS => Zt (by kernel_rfl) (hS.heap.cell (k := 1) rfl (zO Eq))) (Ea.pk [1, 2]) fun _ Er => q_t 10 ?_
    refine c_p Er Ea (mul_go _ (zb a k 0) (zb b i 0)) fun _ _ Es Ec => ⟨fun _ => Ec.pk [1, 2], ?_⟩
    refine q_s [11,12,13,14,15] [] 0 Es (Ec.pk [1, 2]) fun _ Et => ?_
    exact h_e ⟨Et.sb, Ec.pk [0, 1, 2, 3]⟩
   rintro _ _ ⟨Eu, Ee⟩
   refine ze <| wp_seq <| zj <| d_k [0,1,4,5,6,7,8,9,10,13,16,34,37] [(3, g_n (w_a i k))] 4 Eu fun _ Ew => f_o <| q_v (x := Instr.indexAt 93 (pt Eb) (ni (i + k))) (v := .pointer (some ⟨Eb, i + k, none⟩)) Ew (zs (e := 22) (sz := 1) (m := 8) (j := i + k) (o := i + k) (by kernel_rfl) (by kernel_rfl) (by omega) (by omega) (by omega) _) fun _ Ex => f_o ?_
   have Ey : i + k < zf u := by rw [hlu]; omega
   refine m_v 0 (i + k) (zm (zb u (i + k) 0)) Ex Ee rfl (zO Ey) fun _ Ez => f_o <| op_ext (d := some 40) (f := 83) (args := #[zm ((zb a k 0) * (zb b i 0)), zm (zb u (i + k) 0), zm (0 : UInt64)]) (v := .tuple #[zm (addLo ((zb a k 0) * (zb b i 0)) (zb u (i + k) 0) (0 : UInt64)), zm (addHi ((zb a k 0) * (zb b i 0)) (zb u (i + k) 0) (0 : UInt64))]) Ez (by kernel_rfl) (Go.Dbr.ext_add64 Tryz.func83 (by kernel_rfl) (by kernel_rfl) (by kernel_rfl) (by kernel_rfl) ((zb a k 0) * (zb b i 0)) (zb u (i + k) 0) (0 : UInt64) (by decide)) ?_
   intro _ EA
   refine d_e [0,1,4,5,6,7,8,9,10,11,13,16] [] EA fun _ EB => ze <| wp_seq <| zj <| d_k [0,1,4,5,6,7,8,9,10,11,13,16,44,45] [] 2 EB fun _ EC => f_o <| op_ext (d := some 46) (f := 83) (args := #[zm (addLo ((zb a k 0) * (zb b i 0)) (zb u (i + k) 0) (0 : UInt64)), zm c, zm (0 : UInt64)]) (v := .tuple #[zm (addLo (addLo ((zb a k 0) * (zb b i 0)) (zb u (i + k) 0) (0 : UInt64)) c (0 : UInt64)), zm (addHi (addLo ((zb a k 0) * (zb b i 0)) (zb u (i + k) 0) (0 : UInt64)) c (0 : UInt64))]) EC (by kernel_rfl) (Go.Dbr.ext_add64 Tryz.func83 (by kernel_rfl) (by kernel_rfl) (by kernel_rfl) (by kernel_rfl) (addLo ((zb a k 0) * (zb b i 0)) (zb u (i + k) 0) (0 : UInt64)) c (0 : UInt64) (by decide)) ?_
   intro _ ED
   refine d_e [0,1,4,5,6,7,8,9,10,11,12,13,16] [] ED fun _ EE => ze <| zj <| d_k [0,1,4,5,6,7,8,10,13,16,51,52,57] [(2, g_n (w_a i k)), (6, g_i .u64 (Zj (x := mulHi (zb a k 0) (zb b i 0)) (y := addHi ((zb a k 0) * (zb b i 0)) (zb u (i + k) 0) (0 : UInt64)) rfl rfl)), (8, g_i .u64 (Zj (x := (mulHi (zb a k 0) (zb b i 0)) + (addHi ((zb a k 0) * (zb b i 0)) (zb u (i + k) 0) (0 : UInt64))) (y := addHi (addLo ((zb a k 0) * (zb b i 0)) (zb u (i + k) 0) (0 : UInt64)) c (0 : UInt64)) rfl rfl))] 9 EE fun _ EF => f_o <| q_v (x := Instr.indexAt 93 (pt Eb) (ni (i + k))) (v := .pointer (some ⟨Eb, i + k, none⟩)) EF (zs (e := 22) (sz := 1) (m := 8) (j := i + k) (o := i + k) (by kernel_rfl) (by kernel_rfl) (by omega) (by omega) (by omega) _) fun _ EG => f_o ?_
   have EH : i + k < zf u := by rw [hlu]; omega
   refine m_t 0 (i + k) (zm (addLo (addLo ((zb a k 0) * (zb b i 0)) (zb u (i + k) 0) (0 : UInt64)) c (0 : UInt64))) _ EG Ee rfl (zO EH) (u64s_set _ _ _) rfl fun _ _ EI EJ => d_e [0,1,4,5,6,7,8,10,13,16] [] EI fun _ EK => zw <| ze <| d_r [0,1,4,5,6,7,8,10,13,16] [(0, g_n (w_a k 1))] EK fun _ EL => ze <| ⟨_, ⟨k + 1, (zt u (i + k) (addLo (addLo ((zb a k 0) * (zb b i 0)) (zb u (i + k) 0) (0 : UInt64)) c (0 : UInt64))), (((mulHi (zb a k 0) (zb b i 0)) + (addHi ((zb a k 0) * (zb b i 0)) (zb u (i + k) 0) (0 : UInt64))) + (addHi (addLo ((zb a k 0) * (zb b i 0)) (zb u (i + k) 0) (0 : UInt64)) c (0 : UInt64))), rfl, EL.sb, EJ.pk [0, 1, 2, 3], by omega, by simp [hlu], whole_in hlu (by omega) hv2, fun j hj => by rw [getD_set_ne _ (by omega)]; exact E4 j hj⟩, ?_⟩
   omega
  refine wp_exit <| zF <| zF <| zX <| ze ?_
  have hk4 : k = 4 := by omega
  refine zj <| d_k [0,1,4,5,6,7,13,16,61,62] [(1, g_n (w_a i 4))] 3 Ej fun _ EM => f_o <| q_v (x := Instr.indexAt 93 (pt Eb) (ni (i + 4))) (v := .pointer (some ⟨Eb, i + 4, none⟩)) EM (zs (e := 22) (sz := 1) (m := 8) (j := i + 4) (o := i + 4) (by kernel_rfl) (by kernel_rfl) (by omega) (by omega) (by omega) _) fun _ EN => f_o ?_
  have EO : i + 4 < zf u := by rw [hlu]; omega
  refine m_t 0 (i + 4) (zm c) [.box Eb (zg (zt u (i + 4) c)) 93, .box ba (zg a) 24, .box bb (zg b) 24, .box Ed (zg (zd 8 0)) 93] EN Ei rfl (zO EO) (u64s_set _ _ _) rfl fun _ _ EP EQ => f_e <| zw <| ze <| d_r [0,1,4,5,6,7,13,16] [(0, g_n (w_a i 1))] EP fun _ ER => ze <| ⟨_, ⟨i + 1, (zt u (i + 4) c), rfl, ER.sb, EQ.pk [0, 1, 2, 3], by omega, by simp [hlu], whole_out ha hlu (by omega) (E4 _ (by omega)) (by rw [hk4] at hv2; exact hv2), fun j hj => by rw [getD_set_ne _ (by omega)]; exact E4 j (by omega)⟩, ?_⟩
  omega
 refine wp_exit <| zF <| zF <| zX <| ze <| wp_seq <| zj <| f_o <| m_aw 0 8 (zg t) Eh Eg rfl (za hlt) fun _ ES => f_o <| m_gw 3 8 (zg t) _ ES Eg rfl (za hlt) (za (zh)) (zq _) rfl fun _ _ ET Ef => f_e <| ze <| wp_ret <| d_cell1 (v := .agg (zc (zg t))) (t := 4) (T := 93) (ad := ⟨Ed, 0, none⟩) ET (by kernel_rfl) (by kernel_rfl) (zC (t := 93) (k := 3) (off := 0) (m := 8) (xs := zg t) Ef rfl (zn (za hlt)) (za hlt) (by kernel_rfl) (by kernel_rfl)) ?_
 have hi4 : i = 4 := by omega
 have hte : t = nds 8 (nv a * nv b) := nds_of hlt (by rw [hv, hi4, dvk4 hb])
 subst hte
 exact ⟨rfl, Ef.pk [1, 2]⟩
end Go.Proofs.YtpfhmbbiadpbeaaGreat
