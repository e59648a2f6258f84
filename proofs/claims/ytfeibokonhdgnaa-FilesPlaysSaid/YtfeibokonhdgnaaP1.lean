/- Layer 2: the document's store. -/
import Derived.Test.YtfeibokonhdgnaaK5
import Derived.Test.YtfeibokonhdgnaaCutS
namespace Go.Proofs.Ytfeibokonhdgnaa
open Go.Dbr
set_option maxRecDepth 100000
set_option maxHeartbeats 2000000
set_option linter.unusedVariables false
set_option linter.unusedSimpArgs false

/-- a file of the document's: its name, bytes, whether it is torn, the fresh bytes, how many are written -/
abbrev RF := (List UInt8) × (Sl UInt8) × (Bool) × (Sl UInt8) × (Int) × Unit
def fRF : RF → List Value := (fun p : (List UInt8) × (Sl UInt8) × (Bool) × (Sl UInt8) × (Int) × Unit => (fun l : List UInt8 => [.string (bstr l)]) p.1 ++ (fun p : (Sl UInt8) × (Bool) × (Sl UInt8) × (Int) × Unit => (fun s : Sl UInt8 => s.f) p.1 ++ (fun p : (Bool) × (Sl UInt8) × (Int) × Unit => (fun b : Bool => [.bool b]) p.1 ++ (fun p : (Sl UInt8) × (Int) × Unit => (fun s : Sl UInt8 => s.f) p.1 ++ (fun p : (Int) × Unit => (fun n : Int => [.int .i64 n]) p.1 ++ (fun _ : Unit => []) p.2) p.2) p.2) p.2) p.2)
def plc (name : Bs) : List RF → Nat
  | [] => 0
  | x :: r => if x.1 < name then plc name r + 1 else 0
def hitX (name : Bs) (xs : List RF) : Bool := match xs[plc name xs]? with
  | some x => x.1 == name
  | none => false
theorem plc_le (name : Bs) : ∀ xs : List RF, plc name xs ≤ xs.length
  | [] => Nat.le_refl _
  | x :: r => by
    have := plc_le name r
    unfold plc
    split
    · simpa using this
    · exact Nat.zero_le _
theorem plc_go {name : Bs} {xs : List RF} {i : Nat} {x : RF} (h : plc name xs = i + plc name (xs.drop i)) (hx : xs[i]? = some x) (g : x.1 < name) : plc name xs = i + 1 + plc name (xs.drop (i + 1)) := by
  obtain ⟨hl, hg⟩ := List.getElem?_eq_some_iff.1 hx
  rw [h, List.drop_eq_getElem_cons hl, hg, plc, if_pos g]
  omega
theorem plc_at {name : Bs} {xs : List RF} {i : Nat} {x : RF} (h : plc name xs = i + plc name (xs.drop i)) (hx : xs[i]? = some x) (g : ¬ x.1 < name) : plc name xs = i ∧ hitX name xs = (x.1 == name) := by
  obtain ⟨hl, hg⟩ := List.getElem?_eq_some_iff.1 hx
  have e : plc name xs = i := by
    rw [h, List.drop_eq_getElem_cons hl, hg, plc, if_neg g]
    omega
  refine ⟨e, ?_⟩
  rw [hitX, e, hx]
theorem plc_end {name : Bs} {xs : List RF} {i : Nat} (h : plc name xs = i + plc name (xs.drop i)) (hi : i = xs.length) : plc name xs = xs.length ∧ hitX name xs = false := by
  have e : plc name xs = xs.length := by rw [h, hi, List.drop_length, plc]; rfl
  refine ⟨e, ?_⟩
  rw [hitX, e, List.getElem?_eq_none (Nat.le_refl _)]
def mayX (name : Bs) (n : Nat) (there : Bool) (cnt : Nat) : Int :=
  if nmL name = true then (if 65536 < n then 23 else if there = false ∧ 64 ≤ cnt then 24 else 0) else 21
theorem mayI_X (name : Bs) (n : Nat) (m : FM) : mayI name n m = mayX name n (kvAt m name).isSome m.length := rfl
theorem mayX_1 {name : Bs} {n : Nat} {t : Bool} {c : Nat} (h : ¬ nmL name = true) : mayX name n t c = 21 := by rw [mayX, if_neg h]
theorem mayX_2 {name : Bs} {n : Nat} {t : Bool} {c : Nat} (h : nmL name = true) (h2 : 65536 < n) : mayX name n t c = 23 := by rw [mayX, if_pos h, if_pos h2]
theorem mayX_3 {name : Bs} {n : Nat} {t : Bool} {c : Nat} (h : nmL name = true) (h2 : ¬ 65536 < n) (h3 : ¬ t = true) (h4 : 64 ≤ c) : mayX name n t c = 24 := by rw [mayX, if_pos h, if_neg h2, if_pos ⟨Bool.eq_false_iff.2 h3, h4⟩]
theorem mayX_4 {name : Bs} {n : Nat} {t : Bool} {c : Nat} (h : nmL name = true) (h2 : ¬ 65536 < n) (h4 : ¬ 64 ≤ c) : mayX name n t c = 0 := by rw [mayX, if_pos h, if_neg h2, if_neg (fun g => h4 g.2)]
theorem mayX_5 {name : Bs} {n : Nat} {t : Bool} {c : Nat} (h : nmL name = true) (h2 : ¬ 65536 < n) (h3 : t = true) : mayX name n t c = 0 := by rw [mayX, if_pos h, if_neg h2, if_neg (fun g => by rw [h3] at g; cases g.1)]
theorem mayX_len {name : Bs} {n : Nat} {t : Bool} {c : Nat} (h : mayX name n t c = 0) : n ≤ 65536 := by
  unfold mayX at h
  split at h
  · split at h
    · cases h
    · omega
  · cases h
theorem mayX_bad {name : Bs} {n : Nat} {t : Bool} {c : Nat} (h : ¬ mayX name n t c = 0) : (mayX name n t c == 0) = false := beq_eq_false_iff_ne.2 h
def zeroF (name : Bs) : RF := (name, ⟨none, 0, []⟩, false, ⟨none, 0, []⟩, 0, ())
def insX (name : Bs) (xs : List RF) : List RF := xs.take (plc name xs) ++ (zeroF name :: xs.drop (plc name xs))
def madeX (name : Bs) (xs : List RF) : List RF := if hitX name xs = true then xs else insX name xs
theorem hit_lt {name : Bs} {xs : List RF} (h : hitX name xs = true) : plc name xs < xs.length := by
  refine Decidable.byContradiction fun g => ?_
  rw [hitX, List.getElem?_eq_none (by omega)] at h
  cases h
theorem ins_len (name : Bs) (xs : List RF) : (insX name xs).length = xs.length + 1 := by
  have := plc_le name xs
  rw [insX, List.length_append, List.length_take, List.length_cons, List.length_drop]
  omega
theorem made_len (name : Bs) (xs : List RF) : (madeX name xs).length ≤ xs.length + 1 ∧ plc name xs < (madeX name xs).length := by
  have h1 := ins_len name xs
  have h2 := plc_le name xs
  unfold madeX
  split
  · rename_i h
    have := hit_lt h
    omega
  · omega
theorem ins_eq (name : Bs) (xs : List RF) : ([] ++ List.take (plc name xs) xs ++ [zeroF name]) ++ List.drop (plc name xs) xs = insX name xs := by rw [insX]; simp

theorem at_go (w : World) (tb : Nat) (ax : Option Addr) (cx : Nat) (xs : List RF) (h64 : List.length xs ≤ 64) (name : List UInt8) (hnm : List.length name ≤ 140737488351232) (hH : Heap w [.box tb [.slice ax (List.length xs) cx] 43, .vec ax cx 5 (List.flatMap fRF xs) 48]) : Calls Try.prog 29 #[pt tb, .string (bstr name)] w fun e w' => e = .returned (.tuple #[.int .i64 ((plc name xs : Nat) : Int), .bool (hitX name xs)]) ∧ Ev w [.box tb [.slice ax (List.length xs) cx] 43, .vec ax cx 5 (List.flatMap fRF xs) 48] w' [.box tb [.slice ax (List.length xs) cx] 43, .vec ax cx 5 (List.flatMap fRF xs) 48] := by
 refine d_0 [(0, pt tb), (1, .string (bstr name))] 42 Go.Proofs.Try.func29 Go.Proofs.Try.ntmps29 (hH) fun act0 En0 Hv0 => ?_
 refine wp_seq ?_
 refine d_r [0,1,4,5] [] En0 fun ac1 En2 => ?_
 refine then_normal ?_
 refine wp_seq ?_
 refine wp_seq ?_
 refine d_r [0,1,4,5,6] [] En2 fun ac3 En4 => ?_
 refine then_normal ?_
 refine wp_block ?_
 refine loop_m (fun ms5 ac wo => ∃ (i : Nat), ms5 = (List.length xs - i : Nat) ∧ Env ac 42 [(0, pt tb), (1, .string (bstr name)), (6, ni i)] ∧ Ev w [.box tb [.slice ax (List.length xs) cx] 43, .vec ax cx 5 (List.flatMap fRF xs) 48] wo [.box tb [.slice ax (List.length xs) cx] 43, .vec ax cx 5 (List.flatMap fRF xs) 48] ∧ (i ≤ List.length xs) ∧ (plc name xs = i + plc name (List.drop i xs))) ⟨_, 0, rfl, En4.sub (by kernel_rfl), Hv0.pick [0, 1] (by kernel_rfl) (by decide), (Nat.zero_le _), (by rw [List.drop_zero, Nat.zero_add])⟩ ?_
 rintro mm11 ac7 wo8 ⟨i, rfl, En9, Hv10, hil, hpi⟩
 refine wp_seq ?_
 refine wp_seq ?_
 refine region_from ?_
 refine d_k [0,1,6,7,10] [] 4 En9 fun ac12 En13 => ?_
 refine f_o ?_
 refine m_l 0 En13 Hv10 fun ac14 En15 => ?_
 refine d_e [0,1,6,13] [] En15 fun ac16 En17 => ?_
 refine then_normal ?_
 refine c_d (((i : Nat) : Int) < ((List.length xs : Nat) : Int)) En17 (fun hc18 => ?_) (fun hc18 => ?_)
 ·
  refine wp_skip ?_
  refine then_normal ?_
  refine wp_seq ?_
  refine wp_block ?_
  refine wp_seq ?_
  refine region_from ?_
  refine d_k [0,1,6,18] [] 3 En17 fun ac19 En20 => ?_
  refine f_o ?_
  refine m_l 0 En20 Hv10 fun ac21 En22 => ?_
  have hb25 : i < List.length xs := (by omega)
  obtain ⟨adr23, had24⟩ := some_of (sv_nz (f := fRF) (sz := 5) Hv10.heap (k := 1) rfl (fun _ => rfl) (by decide)) hb25
  have hb26 : i < List.length xs := by omega
  obtain ⟨⟨x28a, ⟨a_x28b, c_x28b, x28b⟩, x28c, ⟨a_x28d, c_x28d, x28d⟩, x28e, _⟩, hx27⟩ : ∃ x, (xs)[i]? = some x := ⟨_, List.getElem?_eq_getElem hb26⟩
  refine d_k [0,1,6,19,20] [] 5 En22 fun ac29 En30 => ?_
  refine f_o ?_
  refine q_v (x := Instr.indexAt 41 (.slice ax (List.length xs) cx) (ni i)) (v := .pointer (some (Addr.add adr23 (i * 5)))) En30 (Go.Dbr.run_indexsl (e := 48) (sz := 5) (j := i) (jo := i * 5) had24 (by kernel_rfl) (by kernel_rfl) (by omega) hb25 rfl _) fun ac31 En32 => ?_
  refine d_k [0,1,6,22] [] 7 En32 fun ac33 En34 => ?_
  refine f_o ?_
  refine op_loadf (d := some 23) (t := 9) (ad := adr23) (ao := ax) (ys := List.flatMap fRF xs) (o := i * 5) (v := .string (bstr x28a)) En34 (by kernel_rfl) rfl (Hv10.heap.reads (k := 1) rfl) had24 ((flat_get (sz := 5) (j := 0) (fun _ _ => rfl) hx27 (by decide)).trans rfl) (by kernel_rfl) ?_
  intro ac35 En36
  refine d_e [0,1,6,25] [(9, g_v (show (.bool (!(Op.bytesLess (ByteArray.toList (bstr x28a)) (ByteArray.toList (bstr name)))) : Value) = .bool (!decide (x28a < name)) by rw [Go.Dbr.str_ge x28a name] <;> rfl))] En36 fun ac37 En38 => ?_
  refine then_normal ?_
  refine cond_at En38 (t := !decide (x28a < name)) (by kernel_rfl) (fun hc39 => ?_) (fun hc39 => ?_)
  ·
   replace hc39 : ¬ (x28a < name) := by simpa using hc39
   refine wp_seq ?_
   obtain ⟨adr40, had41⟩ := some_of (sv_nz (f := fRF) (sz := 5) Hv10.heap (k := 1) rfl (fun _ => rfl) (by decide)) (show i < List.length xs from by omega)
   refine r_c (fun ac wo => Env ac 42 [(0, pt tb), (1, .string (bstr name)), (4, ni i), (5, .bool (x28a == name)), (6, ni i)] ∧ Ev w [.box tb [.slice ax (List.length xs) cx] 43, .vec ax cx 5 (List.flatMap fRF xs) 48] wo [.box tb [.slice ax (List.length xs) cx] 43, .vec ax cx 5 (List.flatMap fRF xs) 48]) ?_ ?_
   ·
    refine s_g0 [(0, pt tb), (1, .string (bstr name)), (6, ni i)] [0,1,2,3,4,5,6,7,8,9,10,11,12] [(4, ni i), (5, .bool (x28a == name)), (26, ni i), (27, pt tb), (28, pt tb), (29, pt tb), (30, .slice ax (List.length xs) cx), (31, ni i), (32, .pointer (some (Addr.add adr40 (i * 5)))), (33, .pointer (some (Addr.add adr40 (i * 5)))), (34, .string (bstr x28a)), (35, .string (bstr name)), (36, .bool (x28a == name))] 0 [(0, pt tb), (1, .string (bstr name)), (4, ni i), (5, .bool (x28a == name)), (6, ni i)] (En38.sb) (Hv10.trans (Ev.drew Hv10.heap)) ?_ fun ac64 wo65 En66 Hv67 => ?_
    ·
     refine s_p [] ?_
     refine s_p [] ?_
     refine s_p [] ?_
     refine s_p [] ?_
     refine s_l 0 ?_
     refine s_p [] ?_
     have hb49 : i < List.length xs := (by omega)
     refine s_c (fun Mx50 ac51 wo52 En53 Hv54 => ?_) ?_
     ·
      refine q_v (x := Instr.indexAt 41 (.slice ax (List.length xs) cx) (ni i)) (v := .pointer (some (Addr.add adr40 (i * 5)))) En53 (Go.Dbr.run_indexsl (e := 48) (sz := 5) (j := i) (jo := i * 5) had41 (by kernel_rfl) (by kernel_rfl) (by omega) hb49 rfl _) fun ac55 En56 => ?_
      exact s_e En56 Hv54
     refine s_p [] ?_
     refine s_c (fun Mx57 ac58 wo59 En60 Hv61 => ?_) ?_
     ·
      refine op_loadf (d := some 34) (t := 9) (ad := adr40) (ao := ax) (ys := List.flatMap fRF xs) (o := i * 5) (v := .string (bstr x28a)) En60 (by kernel_rfl) rfl (Hv61.heap.reads (k := 1) rfl) had41 ((flat_get (sz := 5) (j := 0) (fun _ _ => rfl) hx27 (by decide)).trans rfl) (by kernel_rfl) ?_
      intro ac62 En63
      exact s_e En63 Hv61
     refine s_p [] ?_
     refine s_p [(10, g_v (show (.bool (ByteArray.toList (bstr x28a) == ByteArray.toList (bstr name)) : Value) = .bool (x28a == name) by rw [Go.Dbr.bstr_eq x28a name] <;> rfl))] ?_
     refine s_p [] ?_
     refine s_p [] ?_
     exact s_n
    exact a_e ⟨En66.sub (by kernel_rfl), Hv67.pick [0, 1] (by kernel_rfl) (by decide)⟩
   rintro ac68 wo69 ⟨En70, Hv71⟩
   refine then_normal ?_
   refine wp_ret ?_
   refine block_ret ?_
   refine then_ret ?_
   refine then_ret ?_
   refine block_ret ?_
   refine then_ret ?_
   refine d_ret2 (t := 4) (u := 5) (v := ni i) (x := .bool (x28a == name)) En70 (by kernel_rfl) (by kernel_rfl) (by kernel_rfl) ?_
   obtain ⟨e1, e2⟩ := plc_at hpi hx27 hc39
   rw [e1, e2]
   exact ⟨rfl, Hv71.pick [0, 1] (by kernel_rfl) (by decide)⟩
  ·
   replace hc39 : x28a < name := by simpa using hc39
   refine wp_skip ?_
   refine block_normal ?_
   refine then_normal ?_
   refine d_r [0,1,6] [(1, g_n (w_a i 1))] En38 fun ac72 En73 => ?_
   refine then_normal ?_
   refine ⟨_, ⟨i + 1, rfl, En73.sub (by kernel_rfl), Hv10.pick [0, 1] (by kernel_rfl) (by decide), (by omega), (plc_go hpi hx27 hc39)⟩, ?_⟩
   omega
 ·
  refine wp_exit ?_
  refine then_exit ?_
  refine then_exit ?_
  refine block_exit ?_
  refine then_normal ?_
  refine wp_seq ?_
  refine region_from ?_
  refine d_k [0,1,6,39] [] 3 En17 fun ac74 En75 => ?_
  refine f_o ?_
  refine m_l 0 En75 Hv10 fun ac76 En77 => ?_
  refine d_e [0,1,4,5,6] [] En77 fun ac78 En79 => ?_
  refine then_normal ?_
  refine wp_ret ?_
  refine d_ret2 (t := 4) (u := 5) (v := .int .i64 ((List.length xs : Nat) : Int)) (x := .bool false) En79 (by kernel_rfl) (by kernel_rfl) (by kernel_rfl) ?_
  obtain ⟨e1, e2⟩ := plc_end hpi (by omega)
  rw [e1, e2]
  exact ⟨rfl, Hv10.pick [0, 1] (by kernel_rfl) (by decide)⟩

theorem mayr_go (w : World) (tb : Nat) (ax : Option Addr) (cx : Nat) (xs : List RF) (h64 : List.length xs ≤ 64) (name : List UInt8) (hnm : List.length name ≤ 140737488351232) (a : Option Addr) (n c : Nat) (hn : n ≤ 140737489403904) (hH : Heap w [.box tb [.slice ax (List.length xs) cx] 43, .vec ax cx 5 (List.flatMap fRF xs) 48]) : Calls Try.prog 35 #[pt tb, .string (bstr name), .slice a n c] w fun e w' => e = .returned (.int .i64 (mayX name n (hitX name xs) (List.length xs))) ∧ Ev w [.box tb [.slice ax (List.length xs) cx] 43, .vec ax cx 5 (List.flatMap fRF xs) 48] w' [.box tb [.slice ax (List.length xs) cx] 43, .vec ax cx 5 (List.flatMap fRF xs) 48] := by
 refine d_0 [(0, pt tb), (1, .string (bstr name)), (2, .slice a n c)] 36 Go.Proofs.Try.func35 Go.Proofs.Try.ntmps35 (hH) fun act0 En0 Hv0 => ?_
 refine d_s [0,1,2,6] [] En0 fun ac1 En2 => ?_
 refine wp_seq ?_
 refine region_from ?_
 refine d_k [0,1,2,6,10] [] 1 En2 fun ac3 En4 => ?_
 refine f_o ?_
 refine c_p En4 Hv0 (name_go _ name (by first | assumption | omega)) fun ac9 wo6 En10 Hv11 => ?_
 refine d_e [0,1,2,6,7] [] En10 fun ac12 En13 => ?_
 refine then_normal ?_
 refine wp_seq ?_
 refine region_from ?_
 refine d_k [0,1,2,6,7,13,14] [] 2 En13 fun ac14 En15 => ?_
 refine f_o ?_
 refine c_l [0,1] (M := [.box tb [.slice ax (List.length xs) cx] 43, .vec ax cx 5 (List.flatMap fRF xs) 48]) En15 Hv11 (fun hM16 => at_go _ tb ax cx xs (by first | omega | (simp; done) | (simp; omega)) name (by first | assumption | omega | decide | (simp; done)) hM16) ?_
 rintro _ wo17 ⟨rfl, he18⟩
 refine ⟨_, _, [.box tb [.slice ax (List.length xs) cx] 43, .vec ax cx 5 (List.flatMap fRF xs) 48], rfl, he18, by kernel_rfl, fun ac20 En21 Hv22 => ?_⟩
 refine d_e [0,1,2,6,7,9] [] En21 fun ac23 En24 => ?_
 refine then_normal ?_
 refine wp_seq ?_
 refine wp_block ?_
 refine d_s [0,1,2,6,9,18] [] En24 fun ac25 En26 => ?_
 refine cond_at En26 (t := !(nmL name)) (by kernel_rfl) (fun hc27 => ?_) (fun hc27 => ?_)
 ·
  replace hc27 : ¬ (nmL name = true) := by simpa using hc27
  refine d_s [0,1,2,6,9] [] En26 fun ac28 En29 => ?_
  refine wp_ret ?_
  refine block_ret ?_
  refine then_ret ?_
  refine d_ret1 (t := 6) (v := .int .i64 21) En29 (by kernel_rfl) (by kernel_rfl) ?_
  rw [mayX_1 (by assumption)]
  exact ⟨rfl, Hv22.pick [0, 1] (by kernel_rfl) (by decide)⟩
 ·
  replace hc27 : nmL name = true := by simpa using hc27
  refine d_s [0,1,6,9,21] [] En26 fun ac30 En31 => ?_
  refine c_d (((n : Nat) : Int) > (65536 : Int)) En31 (fun hc32 => ?_) (fun hc32 => ?_)
  ·
   refine d_s [0,1,6,9] [] En31 fun ac33 En34 => ?_
   refine wp_ret ?_
   refine block_ret ?_
   refine then_ret ?_
   refine d_ret1 (t := 6) (v := .int .i64 23) En34 (by kernel_rfl) (by kernel_rfl) ?_
   rw [mayX_2 (by assumption) (by omega)]
   exact ⟨rfl, Hv22.pick [0, 1] (by kernel_rfl) (by decide)⟩
  ·
   refine wp_seq ?_
   refine region_from ?_
   refine d_k [0,1,6,28] [] 3 En31 fun ac35 En36 => ?_
   rcases Bool.eq_false_or_eq_true (!(hitX name xs)) with hb37 | hb37
   ·
    have En38 := En36.fx (t := 28) (congrArg Value.bool hb37)
    have hp39 : ¬ (hitX name xs = true) := by simpa using hb37
    refine d_k [0,1,6,28,31] [] 6 En38 fun ac40 En41 => ?_
    refine f_o ?_
    refine m_l 0 En41 Hv22 fun ac42 En43 => ?_
    refine d_e [0,1,6,25] [] En43 fun ac44 En45 => ?_
    refine then_normal ?_
    refine c_d (((List.length xs : Nat) : Int) ≥ (64 : Int)) En45 (fun hc46 => ?_) (fun hc46 => ?_)
    ·
     refine d_s [0,1,6] [] En45 fun ac47 En48 => ?_
     refine wp_ret ?_
     refine block_ret ?_
     refine then_ret ?_
     refine d_ret1 (t := 6) (v := .int .i64 24) En48 (by kernel_rfl) (by kernel_rfl) ?_
     rw [mayX_3 (by assumption) (by omega) (by assumption) (by omega)]
     exact ⟨rfl, Hv22.pick [0, 1] (by kernel_rfl) (by decide)⟩
    ·
     refine wp_skip ?_
     refine block_normal ?_
     refine then_normal ?_
     refine d_s [0,1,6] [] En45 fun ac49 En50 => ?_
     refine wp_ret ?_
     refine d_ret1 (t := 6) (v := .int .i64 0) En50 (by kernel_rfl) (by kernel_rfl) ?_
     rw [show mayX name n (hitX name xs) (List.length xs) = 0 from by first | exact mayX_4 (by assumption) (by omega) (by omega) | exact mayX_5 (by assumption) (by omega) (by assumption)]
     exact ⟨rfl, Hv22.pick [0, 1] (by kernel_rfl) (by decide)⟩
   ·
    have En51 := En36.fx (t := 28) (congrArg Value.bool hb37)
    have hp52 : hitX name xs = true := by simpa using hb37
    refine d_e [0,1,6,25] [] En51 fun ac53 En54 => ?_
    refine then_normal ?_
    refine c_f En54 ?_
    refine wp_skip ?_
    refine block_normal ?_
    refine then_normal ?_
    refine d_s [0,1,6] [] En54 fun ac55 En56 => ?_
    refine wp_ret ?_
    refine d_ret1 (t := 6) (v := .int .i64 0) En56 (by kernel_rfl) (by kernel_rfl) ?_
    rw [show mayX name n (hitX name xs) (List.length xs) = 0 from by first | exact mayX_4 (by assumption) (by omega) (by omega) | exact mayX_5 (by assumption) (by omega) (by assumption)]
    exact ⟨rfl, Hv22.pick [0, 1] (by kernel_rfl) (by decide)⟩

theorem made_go (w : World) (tb : Nat) (ax : Option Addr) (cx : Nat) (xs : List RF) (h64 : List.length xs ≤ 64) (name : List UInt8) (hnm : List.length name ≤ 140737488351232) (hH : Heap w [.box tb [.slice ax (List.length xs) cx] 43, .vec ax cx 5 (List.flatMap fRF xs) 48]) : Calls Try.prog 36 #[pt tb, .string (bstr name)] w fun e w' => ∃ ay cy, e = .returned (.int .i64 ((plc name xs : Nat) : Int)) ∧ Ev w [.box tb [.slice ax (List.length xs) cx] 43, .vec ax cx 5 (List.flatMap fRF xs) 48] w' [.box tb [.slice ay (List.length (madeX name xs)) cy] 43, .vec ay cy 5 (List.flatMap fRF (madeX name xs)) 48] := by
 have hple := plc_le name xs
 refine d_0 [(0, pt tb), (1, .string (bstr name))] 41 Go.Proofs.Try.func36 Go.Proofs.Try.ntmps36 (hH) fun act0 En0 Hv0 => ?_
 refine d_s [0,1,4] [] En0 fun ac1 En2 => ?_
 refine wp_seq ?_
 refine region_from ?_
 refine d_k [0,1,4,9,10] [] 2 En2 fun ac3 En4 => ?_
 refine f_o ?_
 refine c_l [0,1] (M := [.box tb [.slice ax (List.length xs) cx] 43, .vec ax cx 5 (List.flatMap fRF xs) 48]) En4 Hv0 (fun hM5 => at_go _ tb ax cx xs (by first | omega | (simp; done) | (simp; omega)) name (by first | assumption | omega | decide | (simp; done)) hM5) ?_
 rintro _ wo6 ⟨rfl, he7⟩
 refine ⟨_, _, [.box tb [.slice ax (List.length xs) cx] 43, .vec ax cx 5 (List.flatMap fRF xs) 48], rfl, he7, by kernel_rfl, fun ac9 En10 Hv11 => ?_⟩
 refine d_e [0,1,4,5,6] [] En10 fun ac12 En13 => ?_
 refine then_normal ?_
 refine wp_seq ?_
 refine d_s [0,1,4,5,15] [] En13 fun ac14 En15 => ?_
 refine cond_at En15 (t := !(hitX name xs)) (by kernel_rfl) (fun hc16 => ?_) (fun hc16 => ?_)
 ·
  replace hc16 : ¬ (hitX name xs = true) := by simpa using hc16
  refine wp_seq ?_
  refine region_from ?_
  refine f_o ?_
  refine op_lit (d := some 16) (t := 41) (T := 48) (m := 0) (parts := #[]) (xs := List.flatMap fRF ([] : List ((List UInt8) × (Sl UInt8) × (Bool) × (Sl UInt8) × (Int) × Unit))) (sz := 5) En15 (by kernel_rfl) (by kernel_rfl) rfl (by decide) Hv11 ?_
  intro ac18 wo19 bk17 En20 Hv21
  refine d_k [0,1,4,5,16,19] [] 4 En20 fun ac22 En23 => ?_
  refine f_o ?_
  refine m_l 0 En23 Hv21 fun ac24 En25 => ?_
  refine d_k [0,1,4,5,16,20,21] [] 6 En25 fun ac26 En27 => ?_
  refine f_o ?_
  have hcap28 := sv_vcap (f := fRF) (sz := 5) Hv21.heap (k := 1) rfl (fun _ => rfl) (by decide)
  refine op_slice0 (d := some 22) (t := 41) (e := 48) (sz := 5) (len := List.length xs) (cap := cx) (hi := plc name xs) (ao := ax) (lov := none) (hiv := (some (.int .i64 ((plc name xs : Nat) : Int)))) En27 (by kernel_rfl) (by kernel_rfl) (by kernel_rfl) (by omega) (.inl ⟨rfl, rfl⟩) (.inr ⟨.i64, rfl⟩) ?_
  intro ac29 En30
  refine f_o ?_
  refine op_append (d := some 23) (t := 41) (tx := 41) (ty := 41) (k := 2) (p := 0) (m := plc name xs) (x := .slice ax (plc name xs) cx) (bytes := 80) En30 (by kernel_rfl) Hv21 rfl rfl (Reads.src (size := 5) (tx := 41) (e' := 48) (by kernel_rfl) (sv_take_reads (f := fRF) (sz := 5) (fun _ => rfl) (Hv21.heap.reads (k := 1) rfl) (plc name xs)) (sv_lenn (f := fRF) (sz := 5) (fun _ => rfl) (by first | (simp; done) | (simp; omega))) (fun e => by have := (sv_nz (f := fRF) (sz := 5) Hv21.heap (k := 1) rfl (fun _ => rfl) (by decide)) e; omega) (flat_one (f := fRF) (fun _ => one_all rfl) _)) (by kernel_rfl) (z := .agg #[.string (bstr []), .slice none 0 0, .bool false, .slice none 0 0, .int .i64 0]) (by kernel_rfl) rfl (by decide) (by first | omega | (simp; omega) | (simp at *; omega)) (by unfold maxLen; omega) ?_
  intro ac35 wo36 ao31 cp32 En37 Hv38 hnz _
  clear hnz
  rw [← List.flatMap_append] at Hv38
  have ehz33 : 0 + (plc name xs) = List.length (([] : List ((List UInt8) × (Sl UInt8) × (Bool) × (Sl UInt8) × (Int) × Unit)) ++ (List.take (plc name xs) xs)) := (by first | (simp; done) | (simp; omega) | omega)
  rw [ehz33] at En37
  refine d_e [0,1,4,5,7] [] En37 fun ac39 En40 => ?_
  refine then_normal ?_
  refine wp_seq ?_
  refine region_from ?_
  refine d_k [0,1,4,5,7,24,26] [] 3 En40 fun ac41 En42 => ?_
  refine f_o ?_
  refine op_lit (d := some 27) (t := 41) (T := 48) (m := 1) (parts := #[(0, .agg #[.string (bstr name), .slice none 0 0, .bool false, .slice none 0 0, .int .i64 0])]) (xs := List.flatMap fRF ([(name, ⟨none, 0, []⟩, false, ⟨none, 0, []⟩, (0 : Int), ())] : List ((List UInt8) × (Sl UInt8) × (Bool) × (Sl UInt8) × (Int) × Unit))) (sz := 5) En42 (by kernel_rfl) (by kernel_rfl) rfl (by decide) Hv38 ?_
  intro ac44 wo45 bk43 En46 Hv47
  refine f_o ?_
  refine op_append (d := some 28) (t := 41) (tx := 41) (ty := 41) (k := 2) (p := List.length (([] : List ((List UInt8) × (Sl UInt8) × (Bool) × (Sl UInt8) × (Int) × Unit)) ++ (List.take (plc name xs) xs))) (m := 1) (x := .slice (some ⟨bk43, 0, none⟩) 1 1) (bytes := 80) En46 (by kernel_rfl) Hv47 rfl (sv_len (f := fRF) (sz := 5) (fun _ => rfl) _) (Reads.src (size := 5) (tx := 41) (e' := 48) (by kernel_rfl) (Hv47.heap.reads (k := 3) rfl) rfl (fun e => by cases e) (flat_one (f := fRF) (fun _ => one_all rfl) _)) (by kernel_rfl) (z := .agg #[.string (bstr []), .slice none 0 0, .bool false, .slice none 0 0, .int .i64 0]) (by kernel_rfl) rfl (by decide) (by first | omega | (simp; omega) | (simp at *; omega)) (by unfold maxLen; omega) ?_
  intro ac52 wo53 ao48 cp49 En54 Hv55 hnz _
  clear hnz
  rw [← List.flatMap_append] at Hv55
  have ehz50 : (List.length (([] : List ((List UInt8) × (Sl UInt8) × (Bool) × (Sl UInt8) × (Int) × Unit)) ++ (List.take (plc name xs) xs))) + 1 = List.length ((([] : List ((List UInt8) × (Sl UInt8) × (Bool) × (Sl UInt8) × (Int) × Unit)) ++ (List.take (plc name xs) xs)) ++ ([(name, ⟨none, 0, []⟩, false, ⟨none, 0, []⟩, (0 : Int), ())] : List ((List UInt8) × (Sl UInt8) × (Bool) × (Sl UInt8) × (Int) × Unit))) := (by first | (simp; done) | (simp; omega) | omega)
  rw [ehz50] at En54
  refine d_e [0,1,4,5,7] [] En54 fun ac56 En57 => ?_
  refine then_normal ?_
  refine region_from ?_
  refine d_k [0,1,4,5,7,29,30,33] [] 5 En57 fun ac58 En59 => ?_
  refine f_o ?_
  refine m_l 0 En59 Hv55 fun ac60 En61 => ?_
  refine d_k [0,1,4,5,7,29,30,34,35] [] 7 En61 fun ac62 En63 => ?_
  refine f_o ?_
  have hcap64 := sv_vcap (f := fRF) (sz := 5) Hv55.heap (k := 1) rfl (fun _ => rfl) (by decide)
  refine op_slice (d := some 36) (t := 41) (e := 48) (sz := 5) (len := List.length xs) (cap := cx) (lo := plc name xs) (hi := List.length xs) (ao := ax) (lov := (some (.int .i64 ((plc name xs : Nat) : Int)))) (hiv := none) En63 (by kernel_rfl) (by kernel_rfl) (by kernel_rfl) (by omega) (by omega) (.inr ⟨.i64, rfl⟩) (.inl ⟨rfl, rfl⟩) ?_
  intro ac65 En66
  refine f_o ?_
  refine op_append (d := some 37) (t := 41) (tx := 41) (ty := 41) (k := 2) (p := List.length ((([] : List ((List UInt8) × (Sl UInt8) × (Bool) × (Sl UInt8) × (Int) × Unit)) ++ (List.take (plc name xs) xs)) ++ ([(name, ⟨none, 0, []⟩, false, ⟨none, 0, []⟩, (0 : Int), ())] : List ((List UInt8) × (Sl UInt8) × (Bool) × (Sl UInt8) × (Int) × Unit)))) (m := (List.length xs) - (plc name xs)) (x := .slice (cutAt ax cx (plc name xs) 5) ((List.length xs) - (plc name xs)) (cx - (plc name xs))) (bytes := 80) En66 (by kernel_rfl) Hv55 rfl (sv_len (f := fRF) (sz := 5) (fun _ => rfl) _) (Reads.src (size := 5) (tx := 41) (e' := 48) (by kernel_rfl) (sv_drop_reads (f := fRF) (sz := 5) (fun _ => rfl) (Hv55.heap.reads (k := 1) rfl) cx (plc name xs) (n := (List.length xs)) (by first | rfl | (simp; done)) (by omega) (by omega)) (sv_lenn (f := fRF) (sz := 5) (fun _ => rfl) (by first | (simp; done) | (simp; omega))) (fun e => cut_nz (sv_nz (f := fRF) (sz := 5) Hv55.heap (k := 1) rfl (fun _ => rfl) (by decide)) e (by omega)) (flat_one (f := fRF) (fun _ => one_all rfl) _)) (by kernel_rfl) (z := .agg #[.string (bstr []), .slice none 0 0, .bool false, .slice none 0 0, .int .i64 0]) (by kernel_rfl) rfl (by decide) (by first | omega | (simp; omega) | (simp at *; omega)) (by unfold maxLen; omega) ?_
  intro ac71 wo72 ao67 cp68 En73 Hv74 hnz _
  clear hnz
  rw [← List.flatMap_append] at Hv74
  have ehz69 : (List.length ((([] : List ((List UInt8) × (Sl UInt8) × (Bool) × (Sl UInt8) × (Int) × Unit)) ++ (List.take (plc name xs) xs)) ++ ([(name, ⟨none, 0, []⟩, false, ⟨none, 0, []⟩, (0 : Int), ())] : List ((List UInt8) × (Sl UInt8) × (Bool) × (Sl UInt8) × (Int) × Unit)))) + ((List.length xs) - (plc name xs)) = List.length (((([] : List ((List UInt8) × (Sl UInt8) × (Bool) × (Sl UInt8) × (Int) × Unit)) ++ (List.take (plc name xs) xs)) ++ ([(name, ⟨none, 0, []⟩, false, ⟨none, 0, []⟩, (0 : Int), ())] : List ((List UInt8) × (Sl UInt8) × (Bool) × (Sl UInt8) × (Int) × Unit))) ++ (List.drop (plc name xs) xs)) := (by first | (simp; done) | (simp; omega) | omega)
  rw [ehz69] at En73
  refine d_k [0,1,4,5,7,37,39] [] 11 En73 fun ac75 En76 => ?_
  refine f_o ?_
  refine m_s 0 [.box tb [.slice ao67 (List.length (((([] : List ((List UInt8) × (Sl UInt8) × (Bool) × (Sl UInt8) × (Int) × Unit)) ++ (List.take (plc name xs) xs)) ++ ([(name, ⟨none, 0, []⟩, false, ⟨none, 0, []⟩, (0 : Int), ())] : List ((List UInt8) × (Sl UInt8) × (Bool) × (Sl UInt8) × (Int) × Unit))) ++ (List.drop (plc name xs) xs))) cp68] 43, .vec ax cx 5 (List.flatMap fRF xs) 48, .vec ao67 cp68 5 (List.flatMap fRF (((([] : List ((List UInt8) × (Sl UInt8) × (Bool) × (Sl UInt8) × (Int) × Unit)) ++ (List.take (plc name xs) xs)) ++ ([(name, ⟨none, 0, []⟩, false, ⟨none, 0, []⟩, (0 : Int), ())] : List ((List UInt8) × (Sl UInt8) × (Bool) × (Sl UInt8) × (Int) × Unit))) ++ (List.drop (plc name xs) xs))) 48, .vec (some ⟨bk43, 0, none⟩) 1 5 (List.flatMap fRF ([(name, ⟨none, 0, []⟩, false, ⟨none, 0, []⟩, (0 : Int), ())] : List ((List UInt8) × (Sl UInt8) × (Bool) × (Sl UInt8) × (Int) × Unit))) 48] En76 Hv74 fun ac77 wo78 En79 Hv80 => ?_
  refine f_e ?_
  have Hv81 : Ev w [.box tb [.slice ax (List.length xs) cx] 43, .vec ax cx 5 (List.flatMap fRF xs) 48] wo78 [.box tb [.slice ao67 (List.length (insX name xs)) cp68] 43, .vec ax cx 5 (List.flatMap fRF xs) 48, .vec ao67 cp68 5 (List.flatMap fRF (insX name xs)) 48, .vec (some ⟨bk43, 0, none⟩) 1 5 (List.flatMap fRF ([(name, ⟨none, 0, []⟩, false, ⟨none, 0, []⟩, (0 : Int), ())] : List ((List UInt8) × (Sl UInt8) × (Bool) × (Sl UInt8) × (Int) × Unit))) 48] := by have h := Hv80; rw [show ((([] : List ((List UInt8) × (Sl UInt8) × (Bool) × (Sl UInt8) × (Int) × Unit)) ++ (List.take (plc name xs) xs)) ++ ([(name, ⟨none, 0, []⟩, false, ⟨none, 0, []⟩, (0 : Int), ())] : List ((List UInt8) × (Sl UInt8) × (Bool) × (Sl UInt8) × (Int) × Unit))) ++ (List.drop (plc name xs) xs) = insX name xs from ins_eq name xs] at h; exact h
  refine then_normal ?_
  refine d_s [0,1,4,5,7] [] En79 fun ac82 En83 => ?_
  refine wp_ret ?_
  refine d_ret1 (t := 4) (v := .int .i64 ((plc name xs : Nat) : Int)) En83 (by kernel_rfl) (by kernel_rfl) ?_
  rw [show madeX name xs = insX name xs from by rw [madeX, if_neg (by assumption)]]
  exact ⟨ao67, cp68, rfl, Hv81.pick [0, 2] (by kernel_rfl) (by decide)⟩
 ·
  replace hc16 : hitX name xs = true := by simpa using hc16
  refine wp_skip ?_
  refine then_normal ?_
  refine d_s [0,1,4,5] [] En15 fun ac84 En85 => ?_
  refine wp_ret ?_
  refine d_ret1 (t := 4) (v := .int .i64 ((plc name xs : Nat) : Int)) En85 (by kernel_rfl) (by kernel_rfl) ?_
  rw [show madeX name xs = xs from by rw [madeX, if_pos (by assumption)]]
  exact ⟨ax, cx, rfl, Hv11.pick [0, 1] (by kernel_rfl) (by decide)⟩

end Go.Proofs.Ytfeibokonhdgnaa
