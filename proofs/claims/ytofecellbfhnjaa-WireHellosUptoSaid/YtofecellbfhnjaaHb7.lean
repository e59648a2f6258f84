import Derived.Test.YtofecellbfhnjaaHb6
import Derived.Test.YtofecellbfhnjaaHb5
/- Layer 17: extensions are read, by both. -/


namespace Go.Proofs.Ytofecellbfhnjaa
open Go.Dbr
set_option maxRecDepth 100000
set_option maxHeartbeats 2000000
set_option linter.unusedVariables false
set_option linter.unusedSimpArgs false

theorem fdI_ge (t : UInt16) (ps : List EX) : decide (fdI t ps ≥ 0) = hasE t ps := by
  unfold hasE
  by_cases h : fdN t ps < ps.length
  · rw [fdI_y h, decide_eq_true h]; exact decide_eq_true (by omega)
  · rw [fdI_n h, decide_eq_false h]; rfl
/-- of the first ones, has one the type of one ahead of it? -/
def dupN (ps : List EX) : Nat → Bool
  | 0 => false
  | i + 1 => dupN ps i || (match ps[i]? with
    | some p => hasE p.1 (ps.take i)
    | none => false)
theorem dup_s {ps : List EX} {i : Nat} {p : EX} (h : ps[i]? = some p) : dupN ps (i + 1) = (dupN ps i || hasE p.1 (ps.take i)) := by rw [dupN, h]
theorem dup_t {ps : List EX} {i : Nat} {p : EX} {o od : Bool} (h : ps[i]? = some p) (ho : od = (o || dupN ps i)) (ht : od = true) : true = (o || dupN ps (i + 1)) := by
  rw [dup_s h, ← Bool.or_assoc, ← ho, ht]
  rfl
theorem dup_f {ps : List EX} {i : Nat} {p : EX} {o od : Bool} (h : ps[i]? = some p) (ho : od = (o || dupN ps i)) (hf : ¬ od = true) : hasE p.1 (ps.take i) = (o || dupN ps (i + 1)) := by
  rw [dup_s h, ← Bool.or_assoc, ← ho, Bool.eq_false_iff.2 hf, Bool.false_or]
def dupA (ps : List EX) : Bool := dupN ps ps.length
theorem dup_all {ps : List EX} {i : Nat} {o od : Bool} (ho : od = (o || dupN ps i)) (hi : i = ps.length) : od = (o || dupA ps) := by rw [ho, hi, dupA]
theorem fd_lt {t : UInt16} : ∀ {ps : List EX}, fdN t ps < ps.length ↔ ∃ p ∈ ps, p.1 = t
  | [] => by simp [fdN]
  | q :: r => by
    by_cases e : q.1 = t
    · rw [fdN, if_pos e]; simp [e]
    · rw [fdN, if_neg e, List.length_cons, Nat.add_lt_add_iff_right, fd_lt]; simp [e]
theorem has_iff {t : UInt16} {ps : List EX} : hasE t ps = true ↔ ∃ p ∈ ps, p.1 = t := by rw [hasE, decide_eq_true_eq, fd_lt]
theorem has_s {t : UInt16} {ps : List EX} {k : Nat} {p : EX} (h : ps[k]? = some p) : hasE t (ps.take (k + 1)) = (hasE t (ps.take k) || (p.1 == t)) := by
  rw [Bool.eq_iff_iff, Bool.or_eq_true, has_iff, has_iff, beq_iff_eq, List.take_add_one, h]
  simp only [Option.toList_some, List.mem_append, List.mem_singleton]
  constructor
  · rintro ⟨q, hq | rfl, e⟩
    · exact .inl ⟨q, hq, e⟩
    · exact .inr e
  · rintro (⟨q, hq, e⟩ | e)
    · exact ⟨q, .inl hq, e⟩
    · exact ⟨p, .inr rfl, e⟩
theorem has_t {t : UInt16} {ps : List EX} {k : Nat} {p : EX} {o od : Bool} (h : ps[k]? = some p) (ho : od = (o || hasE t (ps.take k))) (ht : od = true) : true = (o || hasE t (ps.take (k + 1))) := by
  rw [has_s h, ← Bool.or_assoc, ← ho, ht]
  rfl
theorem has_f {t : UInt16} {ps : List EX} {k : Nat} {p : EX} {o od : Bool} (h : ps[k]? = some p) (ho : od = (o || hasE t (ps.take k))) (hf : ¬ od = true) : (((UInt16.toNat p.1 : Nat) : Int) == ((UInt16.toNat t : Nat) : Int)) = (o || hasE t (ps.take (k + 1))) := by
  rw [has_s h, ← Bool.or_assoc, ← ho, Bool.eq_false_iff.2 hf, Bool.false_or, Bool.eq_iff_iff, beq_iff_eq, beq_iff_eq]
  exact ⟨fun g => u16_eq g, fun g => by rw [g]⟩
theorem dup_snoc {ps : List EX} (p : EX) : dupA (ps ++ [p]) = (dupA ps || hasE p.1 ps) := by
  have key : ∀ i, i ≤ ps.length → dupN (ps ++ [p]) i = dupN ps i := by
    intro i
    induction i with
    | zero => intro _; rfl
    | succ i ih =>
      intro hi
      have h : ps[i]? = some ps[i] := List.getElem?_eq_getElem (by omega)
      rw [dup_s h, dup_s (p := ps[i]) (by rw [List.getElem?_append_left (by omega)]; exact h), ih (by omega), List.take_append_of_le_length (by omega)]
  have h : (ps ++ [p])[ps.length]? = some p := by rw [List.getElem?_append_right (Nat.le_refl _), Nat.sub_self]; rfl
  rw [dupA, List.length_append, List.length_singleton, dup_s h, key _ (Nat.le_refl _), List.take_left' rfl]
  rfl
def extsM (l : Bs) (s o : Bool) : List EX × PS := ((manyM extM 2 0 l s o).1, (manyM extM 2 0 l s o).2.1, (manyM extM 2 0 l s o).2.2.1, (manyM extM 2 0 l s o).2.2.2 || dupA (manyM extM 2 0 l s o).1)
def dextM (l : Bs) (s o : Bool) : EX × PS := ((UInt16.ofNat (nbV 2 l s), ldO 2 0 65535 (dkR 2 l s) (tkS 2 l s)), ldR 2 0 65535 (dkR 2 l s) (tkS 2 l s), ldS 2 0 65535 (dkR 2 l s) (tkS 2 l s), o)
def dextsM (l : Bs) (s o : Bool) : List EX × PS := ((dmanyM dextM 2 0 65535 l s o).1, (dmanyM dextM 2 0 65535 l s o).2.1, (dmanyM dextM 2 0 65535 l s o).2.2.1, o || dupA (dmanyM dextM 2 0 65535 l s o).1)
theorem dext_dec : Dec dextM := ⟨fun l o h hs => Nat.lt_of_le_of_lt (ldR_len _ _ _ _ _) (dk_lt (by decide) h (ldS_f hs).2), fun l o => Nat.le_trans (ldR_len _ _ _ _ _) (dkR_len _ _ _)⟩

theorem exts1_go (w : World) (tb : Nat) (t g : UInt16) (a2 : Option Addr) (n2 c2 : Nat) (ab : Option Addr) (cb : Nat) (b : Bs) (ib : InB w [.box tb [uv16 t, .slice a2 n2 c2] 147] ab cb b) (hH : Heap w [.box tb [uv16 t, .slice a2 n2 c2] 147]) : Calls Try.prog 211 #[.agg #[uv16 g, .slice ab (List.length b) cb], pt tb] w fun e w' => e = .returned (.bool (((UInt16.toNat g : Nat) : Int) == ((UInt16.toNat t : Nat) : Int))) ∧ Ev w [.box tb [uv16 t, .slice a2 n2 c2] 147] w' [.box tb [uv16 t, .slice a2 n2 c2] 147] := by
 refine d_0 [(0, .agg #[uv16 g, .slice ab (List.length b) cb]), (1, pt tb)] 9 Go.Proofs.Try.func211 Go.Proofs.Try.ntmps211 (hH) fun act0 En0 Hv0 => ?_
 refine wp_seq ?_
 refine region_from ?_
 refine f_o ?_
 refine m_m 147 [uv16 g, .slice ab (List.length b) cb] En0 Hv0 fun ac2 wo3 bk1 En4 Hv5 => ?_
 refine d_e [1,2,3] [] En4 fun ac6 En7 => ?_
 refine then_normal ?_
 refine wp_seq ?_
 refine region_from ?_
 refine d_k [1,3,4] [] 1 En7 fun ac8 En9 => ?_
 refine f_o ?_
 refine m_l 1 En9 Hv5 fun ac10 En11 => ?_
 refine d_k [3,5,6] [] 3 En11 fun ac12 En13 => ?_
 refine f_o ?_
 refine m_l 0 En13 Hv5 fun ac14 En15 => ?_
 refine d_e [3] [] En15 fun ac16 En17 => ?_
 refine then_normal ?_
 refine wp_ret ?_
 refine d_ret1 (t := 3) (v := .bool (((UInt16.toNat g : Nat) : Int) == ((UInt16.toNat t : Nat) : Int))) En17 (by kernel_rfl) (by kernel_rfl) ?_
 exact ⟨rfl, Hv5.pk [0]⟩

theorem indexe_go (w : World) (tb : Nat) (t : UInt16) (a2 : Option Addr) (n2 c2 : Nat) (al : Option Addr) (cl : Nat) (xs : List RExt) (il : InS fExt 32 (fun y : RExt => (True ∧ (InB w [.box tb [uv16 t, .slice a2 n2 c2] 147] y.2.1.a y.2.1.c y.2.1.l ∧ (True)))) w [.box tb [uv16 t, .slice a2 n2 c2] 147] al cl xs) (hH : Heap w [.box tb [uv16 t, .slice a2 n2 c2] 147]) : Calls Try.prog 133 #[.slice al (List.length xs) cl, .func (.func 211) #[] #[pt tb]] w fun e w' => e = .returned (.int .i64 (fdI t (List.map (fun y : RExt => (y.1, y.2.1.l)) xs))) ∧ Ev w [.box tb [uv16 t, .slice a2 n2 c2] 147] w' [.box tb [uv16 t, .slice a2 n2 c2] 147] := by
 refine d_0 [(0, .slice al (List.length xs) cl), (1, .func (.func 211) #[] #[pt tb])] 19 Go.Proofs.Try.func133 Go.Proofs.Try.ntmps133 (hH) fun act0 En0 Hv0 => ?_
 refine wp_seq ?_
 refine d_r [0,1,4] [] En0 fun ac1 En2 => ?_
 refine then_normal ?_
 refine wp_seq ?_
 refine wp_seq ?_
 refine d_r [0,1,4,7,8] [] En2 fun ac3 En4 => ?_
 refine then_normal ?_
 refine wp_block ?_
 refine loop_m (fun ms5 ac wo => ∃ (i : Nat), ms5 = (List.length xs + 1 - i : Nat) ∧ Env ac 19 [(0, .slice al (List.length xs) cl), (1, .func (.func 211) #[] #[pt tb]), (7, .int .i64 ((List.length xs : Nat) : Int)), (8, ni i)] ∧ Ev w [.box tb [uv16 t, .slice a2 n2 c2] 147] wo [.box tb [uv16 t, .slice a2 n2 c2] 147] ∧ (fdN t (List.map (fun y : RExt => (y.1, y.2.1.l)) xs) = i + fdN t (List.drop i (List.map (fun y : RExt => (y.1, y.2.1.l)) xs)))) ⟨_, 0, rfl, En4.sb, Hv0.pk [0], (by rw [List.drop_zero, Nat.zero_add])⟩ ?_
 rintro mm11 ac7 wo8 ⟨i, rfl, En9, Hv10, hfi⟩
 refine wp_seq ?_
 refine d_r [0,1,7,8,9] [] En9 fun ac12 En13 => ?_
 refine then_normal ?_
 refine wp_seq ?_
 refine c_d (((i : Nat) : Int) < ((List.length xs : Nat) : Int)) En13 (fun hc14 => ?_) (fun hc14 => ?_)
 ·
  refine wp_skip ?_
  refine then_normal ?_
  refine wp_seq ?_
  refine wp_block ?_
  refine wp_seq ?_
  refine d_r [0,1,5,7,8] [] En13 fun ac15 En16 => ?_
  refine then_normal ?_
  refine wp_seq ?_
  have hzl := il.small
  have hb19 : i < List.length xs := (by omega)
  obtain ⟨adr17, had18⟩ := some_of il.nz hb19
  have hb20 : i < List.length xs := by omega
  obtain ⟨⟨x22a, ⟨a_x22b, c_x22b, x22b⟩, _⟩, hx21⟩ : ∃ x, (xs)[i]? = some x := ⟨_, List.getElem?_eq_getElem hb20⟩
  obtain ⟨_, i_x22b, _⟩ := il.each _ (List.mem_of_getElem? hx21)
  replace i_x22b : InB w [.box tb [uv16 t, .slice a2 n2 c2] 147] a_x22b c_x22b x22b := i_x22b
  refine region_from ?_
  refine d_k [0,1,5,7,8,11,12,13] [] 3 En16 fun ac23 En24 => ?_
  refine f_o ?_
  refine q_v (x := Instr.indexAt 36 (.slice al (List.length xs) cl) (ni i)) (v := .pointer (some (Addr.add adr17 (i * 2)))) En24 (Go.Dbr.run_indexsl (e := 147) (sz := 2) (j := i) (jo := i * 2) had18 (by kernel_rfl) (by kernel_rfl) (by omega) hb19 rfl _) fun ac25 En26 => ?_
  refine f_o ?_
  refine op_loadaggat (d := some 15) (t := 147) (ad := adr17) (ao := al) (ys := List.flatMap fExt xs) (o := i * 2) (m := 2) (xs := [uv16 x22a, .slice a_x22b (List.length x22b) c_x22b]) En26 (by kernel_rfl) rfl (il.ro.ev Hv10).reads had18 (fun j hj => ?_) rfl (by kernel_rfl) (by kernel_rfl) ?_
  ·
   exact flat_sub (sz := 2) (off := 0) (m := 2) (fun _ _ => rfl) hx21 (by decide) rfl j hj
  intro ac27 En28
  refine f_o ?_
  refine c_l [0] (M := [.box tb [uv16 t, .slice a2 n2 c2] 147]) En28 Hv10 (fun hM29 => exts1_go _ tb t x22a a2 n2 c2 a_x22b c_x22b x22b ((i_x22b.ev Hv10).pick [0] (by kernel_rfl)) hM29) ?_
  rintro _ wo30 ⟨rfl, he31⟩
  refine ⟨_, _, [.box tb [uv16 t, .slice a2 n2 c2] 147], rfl, he31, by kernel_rfl, fun ac33 En34 Hv35 => ?_⟩
  refine f_e ?_
  refine then_normal ?_
  refine cond_at En34 (t := ((UInt16.toNat x22a : Nat) : Int) == ((UInt16.toNat t : Nat) : Int)) (by kernel_rfl) (fun hc36 => ?_) (fun hc36 => ?_)
  ·
   replace hc36 : ((UInt16.toNat x22a : Nat) : Int) = ((UInt16.toNat t : Nat) : Int) := eq_of_beq hc36
   refine wp_seq ?_
   refine d_r [0,1,4,5,7,8] [] En34 fun ac37 En38 => ?_
   refine then_normal ?_
   refine wp_ret ?_
   refine block_ret ?_
   refine then_ret ?_
   refine then_ret ?_
   refine block_ret ?_
   refine then_ret ?_
   refine d_ret1 (t := 4) (v := ni i) En38 (by kernel_rfl) (by kernel_rfl) ?_
   obtain ⟨hN, hP⟩ := fd_hit (f := (fun y : RExt => (y.1, y.2.1.l))) hfi hx21 (u16_eq (by assumption))
   have hL : fdN t (List.map (fun y : RExt => (y.1, y.2.1.l)) xs) < List.length (List.map (fun y : RExt => (y.1, y.2.1.l)) xs) := by rw [hN, List.length_map]; omega
   exact ⟨congrArg (fun z => Ending.returned (Value.int .i64 z)) (by rw [fdI_y hL, hN]), Hv35.pk [0]⟩
  ·
   replace hc36 : ¬ (((UInt16.toNat x22a : Nat) : Int) = ((UInt16.toNat t : Nat) : Int)) := ne_of_beq_false hc36
   refine wp_skip ?_
   refine block_normal ?_
   refine then_normal ?_
   refine d_r [0,1,5,7,8] [(0, g_n (w_a i 1))] En34 fun ac39 En40 => ?_
   refine then_normal ?_
   refine ⟨_, ⟨i + 1, rfl, En40.sb, Hv35.pk [0], (fd_go hfi hx21 (fun g => absurd (congrArg (fun z : UInt16 => ((UInt16.toNat z : Nat) : Int)) g) (by assumption)))⟩, ?_⟩
   omega
 ·
  refine wp_exit ?_
  refine then_exit ?_
  refine then_exit ?_
  refine block_exit ?_
  refine then_normal ?_
  refine wp_seq ?_
  refine d_r [0,1,4,7,8] [] En13 fun ac41 En42 => ?_
  refine then_normal ?_
  refine wp_ret ?_
  refine d_ret1 (t := 4) (v := .int .i64 (-1)) En42 (by kernel_rfl) (by kernel_rfl) ?_
  exact ⟨congrArg (fun z => Ending.returned (Value.int .i64 z)) (fdI_n (fd_end hfi (by omega))).symm, Hv10.pk [0]⟩

theorem contf_go (w : World) (tb : Nat) (t : UInt16) (a2 : Option Addr) (n2 c2 : Nat) (n : Nat) (al : Option Addr) (cl : Nat) (xs : List RExt) (il : InS fExt 32 (fun y : RExt => (True ∧ (InB w [.box tb [uv16 t, .slice a2 n2 c2] 147] y.2.1.a y.2.1.c y.2.1.l ∧ (True)))) w [.box tb [uv16 t, .slice a2 n2 c2] 147] al cl xs) (en : n = List.length xs) (hH : Heap w [.box tb [uv16 t, .slice a2 n2 c2] 147]) : Calls Try.prog 205 #[.slice al n cl, .func (.func 211) #[] #[pt tb]] w fun e w' => e = .returned (.bool (hasE t (List.map (fun y : RExt => (y.1, y.2.1.l)) xs))) ∧ Ev w [.box tb [uv16 t, .slice a2 n2 c2] 147] w' [.box tb [uv16 t, .slice a2 n2 c2] 147] := by
 subst en
 refine d_0 [(0, .slice al (List.length xs) cl), (1, .func (.func 211) #[] #[pt tb])] 9 Go.Proofs.Try.func205 Go.Proofs.Try.ntmps205 (hH) fun act0 En0 Hv0 => ?_
 refine d_s [0,1,4] [] En0 fun ac1 En2 => ?_
 refine wp_seq ?_
 refine region_from ?_
 refine d_k [4,5,6] [] 2 En2 fun ac3 En4 => ?_
 refine f_o ?_
 refine c_l [0] (M := [.box tb [uv16 t, .slice a2 n2 c2] 147]) En4 Hv0 (fun hM5 => indexe_go _ tb t a2 n2 c2 al cl xs (il.go Hv0 [0] (by kernel_rfl) (fun _ h => ⟨h.1, (InB.ev h.2.1 Hv0).pick [0] (by kernel_rfl), h.2.2⟩)) hM5) ?_
 rintro _ wo6 ⟨rfl, he7⟩
 refine ⟨_, _, [.box tb [uv16 t, .slice a2 n2 c2] 147], rfl, he7, by kernel_rfl, fun ac9 En10 Hv11 => ?_⟩
 refine d_e [4] [(3, g_v (show (.bool (decide (fdI t (List.map (fun y : RExt => (y.1, y.2.1.l)) xs) ≥ (0 : Int))) : Value) = .bool (hasE t (List.map (fun y : RExt => (y.1, y.2.1.l)) xs)) by rw [fdI_ge t (List.map (fun y : RExt => (y.1, y.2.1.l)) xs)] <;> rfl))] En10 fun ac12 En13 => ?_
 refine then_normal ?_
 refine wp_ret ?_
 refine d_ret1 (t := 4) (v := .bool (hasE t (List.map (fun y : RExt => (y.1, y.2.1.l)) xs))) En13 (by kernel_rfl) (by kernel_rfl) ?_
 exact ⟨rfl, Hv11.pk [0]⟩

theorem exts_go (w : World) (br : Nat) (a : Option Addr) (c : Nat) (l : List UInt8) (s o : Bool) (i : InB w [.box br [.slice a (List.length l) c, .bool s, .bool o] 120] a c l) (hH : Heap w [.box br [.slice a (List.length l) c, .bool s, .bool o] 120]) : Calls Try.prog 183 #[pt br] w fun e w' => ∃ ta tc oa oc xs, e = .returned (.slice oa (List.length xs) oc) ∧ Ev w [.box br [.slice a (List.length l) c, .bool s, .bool o] 120] w' [.box br [.slice ta (List.length ((extsM l s o).2.1)) tc, .bool ((extsM l s o).2.2.1), .bool ((extsM l s o).2.2.2)] 120, .vec oa oc 2 (List.flatMap fExt xs) 147, .grp (List.flatMap innExt xs)] ∧ Sub a c l ta tc (extsM l s o).2.1 ∧ List.map (fun y : RExt => (y.1, y.2.1.l)) xs = (extsM l s o).1 ∧ List.length xs ≤ 4294967296 ∧ ∀ y ∈ xs, List.length y.2.1.l ≤ 140737488351232 := by
 refine d_0 [(0, pt br)] 31 Go.Proofs.Try.func183 Go.Proofs.Try.ntmps183 (hH) fun act0 En0 Hv0 => ?_
 refine wp_seq ?_
 refine d_r [0,2] [] En0 fun ac1 En2 => ?_
 refine then_normal ?_
 refine wp_seq ?_
 refine region_from ?_
 refine d_k [0,2,6] [] 1 En2 fun ac3 En4 => ?_
 refine f_o ?_
 refine c_l [0] (M := [.box br [.slice a (List.length l) c, .bool s, .bool o] 120]) En4 Hv0 (fun hM14 => many_ext _ br 2 (by omega) 0 (by omega) a c l s o ((i.ev Hv0).pick [0] (by kernel_rfl)) hM14) ?_
 rintro _ wo15 ⟨ta5, tc6, oa7, oc8, xs9, rfl, he16, hs10, hmn11, hct12, hsm13⟩
 refine ⟨_, _, [.box br [.slice ta5 (List.length (lsR 2 0 16777215 l s)) tc6, .bool (lsS 2 0 16777215 l s || (mn extM ((lsO 2 0 16777215 l s, lsS 2 0 16777215 l s, false) : PS)).2.2.1), .bool (o || (mn extM ((lsO 2 0 16777215 l s, lsS 2 0 16777215 l s, false) : PS)).2.2.2)] 120, .vec oa7 oc8 2 (List.flatMap fExt xs9) 147, .grp (List.flatMap innExt xs9)], rfl, he16, by kernel_rfl, fun ac18 En19 Hv20 => ?_⟩
 refine d_e [0,2,3] [] En19 fun ac21 En22 => ?_
 refine then_normal ?_
 refine wp_seq ?_
 refine wp_seq ?_
 have hcx := hct12
 have hO9 := lsO_32 (n := 2) (x := 0) (y := 16777215) (by decide) l s
 refine d_r [0,2,3,8,9,10] [] En22 fun ac23 En24 => ?_
 refine then_normal ?_
 refine wp_block ?_
 refine loop_m (fun ms25 ac wo => ∃ (i : Nat) (od : Bool), ms25 = (List.length xs9 - i : Nat) ∧ Env ac 31 [(0, pt br), (2, .slice none 0 0), (3, .slice oa7 (List.length xs9) oc8), (8, .slice oa7 (List.length xs9) oc8), (9, .int .i64 ((List.length xs9 : Nat) : Int)), (10, ni i)] ∧ Ev w [.box br [.slice a (List.length l) c, .bool s, .bool o] 120] wo [.box br [.slice ta5 (List.length (lsR 2 0 16777215 l s)) tc6, .bool (lsS 2 0 16777215 l s || (mn extM ((lsO 2 0 16777215 l s, lsS 2 0 16777215 l s, false) : PS)).2.2.1), .bool od] 120, .vec oa7 oc8 2 (List.flatMap fExt xs9) 147, .grp (List.flatMap innExt xs9)] ∧ (i ≤ List.length xs9) ∧ (od = ((o || (mn extM ((lsO 2 0 16777215 l s, lsS 2 0 16777215 l s, false) : PS)).2.2.2) || dupN (List.map (fun y : RExt => (y.1, y.2.1.l)) xs9) i))) ⟨_, 0, (o || (mn extM ((lsO 2 0 16777215 l s, lsS 2 0 16777215 l s, false) : PS)).2.2.2), rfl, En24.sb, Hv20.pk [0, 1, 2], (Nat.zero_le _), (by rw [dupN, Bool.or_false])⟩ ?_
 rintro mm31 ac27 wo28 ⟨i, od, rfl, En29, Hv30, hil, hod⟩
 refine wp_seq ?_
 refine d_r [0,2,3,8,9,10,11] [] En29 fun ac32 En33 => ?_
 refine then_normal ?_
 refine wp_seq ?_
 refine c_d (((i : Nat) : Int) < ((List.length xs9 : Nat) : Int)) En33 (fun hc34 => ?_) (fun hc34 => ?_)
 ·
  refine wp_skip ?_
  refine then_normal ?_
  refine wp_seq ?_
  refine wp_block ?_
  refine wp_seq ?_
  have hb37 : i < List.length xs9 := (by omega)
  obtain ⟨adr35, had36⟩ := some_of (sv_nz (f := fExt) (sz := 2) Hv30.heap (k := 1) rfl (fun _ => rfl) (by decide)) hb37
  have hb38 : i < List.length xs9 := by omega
  obtain ⟨⟨x40a, ⟨a_x40b, c_x40b, x40b⟩, _⟩, hx39⟩ : ∃ x, (xs9)[i]? = some x := ⟨_, List.getElem?_eq_getElem hb38⟩
  refine region_from ?_
  refine d_k [0,2,3,8,9,10,12] [] 1 En33 fun ac41 En42 => ?_
  refine f_o ?_
  refine q_v (x := Instr.indexAt 36 (.slice oa7 (List.length xs9) oc8) (ni i)) (v := .pointer (some (Addr.add adr35 (i * 2)))) En42 (Go.Dbr.run_indexsl (e := 147) (sz := 2) (j := i) (jo := i * 2) had36 (by kernel_rfl) (by kernel_rfl) (by omega) hb37 rfl _) fun ac43 En44 => ?_
  refine f_o ?_
  refine op_loadaggat (d := some 14) (t := 147) (ad := adr35) (ao := oa7) (ys := List.flatMap fExt xs9) (o := i * 2) (m := 2) (xs := [uv16 x40a, .slice a_x40b (List.length x40b) c_x40b]) En44 (by kernel_rfl) rfl (Hv30.heap.reads (k := 1) rfl) had36 (fun j hj => ?_) rfl (by kernel_rfl) (by kernel_rfl) ?_
  ·
   exact flat_sub (sz := 2) (off := 0) (m := 2) (fun _ _ => rfl) hx39 (by decide) rfl j hj
  intro ac45 En46
  refine f_o ?_
  refine m_z 147 [.int .u16 0, .slice none 0 0] En46 Hv30 fun ac48 wo49 bk47 En50 Hv51 => ?_
  refine d_k [0,2,3,4,5,8,9,10,14] [] 5 En50 fun ac52 En53 => ?_
  refine f_o ?_
  refine m_g 3 0 2 [uv16 x40a, .slice a_x40b (List.length x40b) c_x40b] [uv16 x40a, .slice a_x40b (List.length x40b) c_x40b] [.box br [.slice ta5 (List.length (lsR 2 0 16777215 l s)) tc6, .bool (lsS 2 0 16777215 l s || (mn extM ((lsO 2 0 16777215 l s, lsS 2 0 16777215 l s, false) : PS)).2.2.1), .bool od] 120, .vec oa7 oc8 2 (List.flatMap fExt xs9) 147, .grp (List.flatMap innExt xs9), .box bk47 [uv16 x40a, .slice a_x40b (List.length x40b) c_x40b] 147] En53 Hv51 rfl rfl (by simp) (one_all (by kernel_rfl)) rfl rfl fun ac54 wo55 En56 Hv57 => ?_
  refine f_e ?_
  refine then_normal ?_
  refine region_from ?_
  refine d_k [0,2,3,4,5,8,9,10,15,18] [] 4 En56 fun ac58 En59 => ?_
  refine f_o ?_
  refine m_l 0 En59 Hv57 fun ac60 En61 => ?_
  refine d_k [0,2,3,4,5,8,9,10,15,20] [] 6 En61 fun ac62 En63 => ?_
  rcases Bool.eq_false_or_eq_true (od) with hb64 | hb64
  ·
   have En65 := En63.fx (t := 20) (congrArg Value.bool hb64)
   have hp66 : od = true := hb64
   refine d_k [0,2,3,5,8,9,10,26,28] [] 14 En65 fun ac67 En68 => ?_
   refine f_o ?_
   refine m_s 0 [.box br [.slice ta5 (List.length (lsR 2 0 16777215 l s)) tc6, .bool (lsS 2 0 16777215 l s || (mn extM ((lsO 2 0 16777215 l s, lsS 2 0 16777215 l s, false) : PS)).2.2.1), .bool true] 120, .vec oa7 oc8 2 (List.flatMap fExt xs9) 147, .grp (List.flatMap innExt xs9), .box bk47 [uv16 x40a, .slice a_x40b (List.length x40b) c_x40b] 147] En68 Hv57 fun ac69 wo70 En71 Hv72 => ?_
   refine f_e ?_
   refine block_normal ?_
   refine then_normal ?_
   refine d_r [0,2,3,5,8,9,10] [(0, g_n (w_a i 1))] En71 fun ac73 En74 => ?_
   refine then_normal ?_
   refine ⟨_, ⟨i + 1, true, rfl, En74.sb, Hv72.pk [0, 1, 2], (by omega), (dup_t (show (List.map (fun y : RExt => (y.1, y.2.1.l)) xs9)[i]? = some ((fun y : RExt => (y.1, y.2.1.l)) (x40a, ⟨a_x40b, c_x40b, x40b⟩, ())) from by rw [List.getElem?_map, hx39]; rfl) hod hp66)⟩, ?_⟩
   omega
  ·
   have En75 := En63.fx (t := 20) (congrArg Value.bool hb64)
   have hp76 : ¬ (od = true) := Bool.eq_false_iff.1 hb64
   refine d_k [0,2,3,5,8,9,10,15,20,21,22] [] 8 En75 fun ac77 En78 => ?_
   refine f_o ?_
   have hcap79 := sv_vcap (f := fExt) (sz := 2) Hv57.heap (k := 1) rfl (fun _ => rfl) (by decide)
   refine op_slice0 (d := some 23) (t := 36) (e := 147) (sz := 2) (len := List.length xs9) (cap := oc8) (hi := i) (ao := oa7) (lov := none) (hiv := (some (ni i))) En78 (by kernel_rfl) (by kernel_rfl) (by kernel_rfl) (by omega) (.inl ⟨rfl, rfl⟩) (.inr ⟨.i64, rfl⟩) ?_
   intro ac80 En81
   refine d_k [0,2,3,5,8,9,10,15,20,23,24] [] 10 En81 fun ac82 En83 => ?_
   refine f_o ?_
   refine c_l [3] (M := [.box bk47 [uv16 x40a, .slice a_x40b (List.length x40b) c_x40b] 147]) En83 Hv57 (fun hM84 => contf_go _ bk47 x40a a_x40b (List.length x40b) c_x40b i oa7 oc8 (List.take i xs9) ((Hv57.heap.innS (k := 1) (f := fExt) (sz := 2) (by_ := 32) rfl (fun _ => rfl) (by decide) [3] (by kernel_rfl) rfl (by omega) (fun y hy => ⟨trivial, Hv57.heap.innB (k := 2) rfl (List.mem_flatMap.2 ⟨y, hy, List.mem_cons_self⟩) [3] (by kernel_rfl) rfl (Nat.le_trans (hsm13 y hy) (by decide)), trivial⟩)).take i) (by rw [List.length_take]; omega) hM84) ?_
   rintro _ wo85 ⟨rfl, he86⟩
   refine ⟨_, _, [.box bk47 [uv16 x40a, .slice a_x40b (List.length x40b) c_x40b] 147, .box br [.slice ta5 (List.length (lsR 2 0 16777215 l s)) tc6, .bool (lsS 2 0 16777215 l s || (mn extM ((lsO 2 0 16777215 l s, lsS 2 0 16777215 l s, false) : PS)).2.2.1), .bool od] 120, .vec oa7 oc8 2 (List.flatMap fExt xs9) 147, .grp (List.flatMap innExt xs9)], rfl, he86, by kernel_rfl, fun ac88 En89 Hv90 => ?_⟩
   refine d_k [0,2,3,5,8,9,10,26,28] [] 14 En89 fun ac91 En92 => ?_
   refine f_o ?_
   refine m_s 1 [.box bk47 [uv16 x40a, .slice a_x40b (List.length x40b) c_x40b] 147, .box br [.slice ta5 (List.length (lsR 2 0 16777215 l s)) tc6, .bool (lsS 2 0 16777215 l s || (mn extM ((lsO 2 0 16777215 l s, lsS 2 0 16777215 l s, false) : PS)).2.2.1), .bool (hasE x40a (List.map (fun y : RExt => (y.1, y.2.1.l)) (List.take i xs9)))] 120, .vec oa7 oc8 2 (List.flatMap fExt xs9) 147, .grp (List.flatMap innExt xs9)] En92 Hv90 fun ac93 wo94 En95 Hv96 => ?_
   refine f_e ?_
   refine block_normal ?_
   refine then_normal ?_
   refine d_r [0,2,3,5,8,9,10] [(0, g_n (w_a i 1))] En95 fun ac97 En98 => ?_
   refine then_normal ?_
   refine ⟨_, ⟨i + 1, hasE x40a (List.map (fun y : RExt => (y.1, y.2.1.l)) (List.take i xs9)), rfl, En98.sb, Hv96.pk [1, 2, 3], (by omega), (by rw [List.map_take]; exact dup_f (show (List.map (fun y : RExt => (y.1, y.2.1.l)) xs9)[i]? = some ((fun y : RExt => (y.1, y.2.1.l)) (x40a, ⟨a_x40b, c_x40b, x40b⟩, ())) from by rw [List.getElem?_map, hx39]; rfl) hod hp76)⟩, ?_⟩
   omega
 ·
  refine wp_exit ?_
  refine then_exit ?_
  refine then_exit ?_
  refine block_exit ?_
  refine then_normal ?_
  refine wp_seq ?_
  refine d_r [0,2,3,8,9,10] [] En33 fun ac99 En100 => ?_
  refine then_normal ?_
  refine wp_ret ?_
  refine d_ret1 (t := 2) (v := .slice oa7 (List.length xs9) oc8) En100 (by kernel_rfl) (by kernel_rfl) ?_
  have hfo := dup_all hod (by rw [List.length_map]; omega)
  rw [hfo, hmn11] at Hv30
  exact ⟨ta5, tc6, oa7, oc8, xs9, rfl, Hv30.pk [0, 1, 2], hs10, hmn11, (Nat.le_trans hct12 (lsO_32 (by decide) _ _)), hsm13⟩

end Go.Proofs.Ytofecellbfhnjaa

/- Layer 17: extensions are read by the document. -/

namespace Go.Proofs.Ytofecellbfhnjaa
open Go.Dbr
set_option maxRecDepth 100000
set_option maxHeartbeats 2000000
set_option linter.unusedVariables false
set_option linter.unusedSimpArgs false

theorem dexts_go (w : World) (br : Nat) (a : Option Addr) (c : Nat) (l : List UInt8) (s o : Bool) (i : InB w [.box br [.slice a (List.length l) c, .bool s, .bool o] 154] a c l) (hH : Heap w [.box br [.slice a (List.length l) c, .bool s, .bool o] 154]) : Calls Try.prog 184 #[pt br] w fun e w' => ∃ ta tc oa oc xs, e = .returned (.slice oa (List.length xs) oc) ∧ Ev w [.box br [.slice a (List.length l) c, .bool s, .bool o] 154] w' [.box br [.slice ta (List.length ((dextsM l s o).2.1)) tc, .bool ((dextsM l s o).2.2.1), .bool ((dextsM l s o).2.2.2)] 154, .vec oa oc 2 (List.flatMap fExt xs) 147, .grp (List.flatMap innExt xs)] ∧ Sub a c l ta tc (dextsM l s o).2.1 ∧ List.map (fun y : RExt => (y.1, y.2.1.l)) xs = (dextsM l s o).1 ∧ List.length xs ≤ 4294967296 ∧ ∀ y ∈ xs, List.length y.2.1.l ≤ 140737488351232 := by
 refine d_0 [(0, pt br)] 49 Go.Proofs.Try.func184 Go.Proofs.Try.ntmps184 (hH) fun act0 En0 Hv0 => ?_
 refine wp_seq ?_
 refine d_r [0,2] [] En0 fun ac1 En2 => ?_
 refine then_normal ?_
 refine wp_seq ?_
 refine region_from ?_
 refine d_k [0,2,7] [] 1 En2 fun ac3 En4 => ?_
 refine f_o ?_
 refine c_l [0] (M := [.box br [.slice a (List.length l) c, .bool s, .bool o] 154]) En4 Hv0 (fun hM11 => dpart_go _ br 2 (by omega) 0 65535 (by omega) (by omega) a c l s o ((i.ev Hv0).pick [0] (by kernel_rfl)) hM11) ?_
 rintro _ wo12 ⟨bp5, ao6, cp7, ta8, tc9, rfl, he13, hs10⟩
 refine ⟨_, _, [.box br [.slice ta8 (List.length (ldR 2 0 65535 l s)) tc9, .bool (ldS 2 0 65535 l s), .bool o] 154, .box bp5 [.slice ao6 (List.length (ldO 2 0 65535 l s)) cp7, .bool (ldS 2 0 65535 l s), .bool false] 154, .vec ao6 cp7 1 (bys (ldO 2 0 65535 l s)) 5], rfl, he13, by kernel_rfl, fun ac15 En16 Hv17 => ?_⟩
 refine d_e [0,2,3] [] En16 fun ac18 En19 => ?_
 refine then_normal ?_
 refine wp_seq ?_
 refine d_r [0,2,3,4] [] En19 fun ac20 En21 => ?_
 refine then_normal ?_
 refine wp_seq ?_
 refine wp_block ?_
 have Hv22 : Ev w [.box br [.slice a (List.length l) c, .bool s, .bool o] 154] wo12 [.box br [.slice ta8 (List.length (ldR 2 0 65535 l s)) tc9, .bool (ldS 2 0 65535 l s), .bool o] 154, .box bp5 [.slice ao6 (List.length (ldO 2 0 65535 l s)) cp7, .bool (ldS 2 0 65535 l s), .bool false] 154, .vec ao6 cp7 1 (bys (ldO 2 0 65535 l s)) 5, .vec none 0 2 (List.flatMap fExt []) 147] := Ev.nil (sz := 2) (T := 147) Hv17
 have Hv23 : Ev w [.box br [.slice a (List.length l) c, .bool s, .bool o] 154] wo12 [.box br [.slice ta8 (List.length (ldR 2 0 65535 l s)) tc9, .bool (ldS 2 0 65535 l s), .bool o] 154, .box bp5 [.slice ao6 (List.length (ldO 2 0 65535 l s)) cp7, .bool (ldS 2 0 65535 l s), .bool false] 154, .vec ao6 cp7 1 (bys (ldO 2 0 65535 l s)) 5, .vec none 0 2 (List.flatMap fExt []) 147, .grp (List.flatMap innExt [])] := Ev.grp0 Hv22
 have hO32 : List.length (ldO 2 0 65535 l s) ≤ 4294967296 := Nat.le_of_succ_le (ldO_32 (n := 2) (x := 0) (y := 65535) (by decide) l s)
 refine loop_m (fun ms24 ac wo => ∃ (oa : Option Addr) (oc : Nat) (xs : List RExt) (ra : Option Addr) (rc : Nat) (rl : Bs) (s1 : Bool) (od : Bool), ms24 = (bif s1 then 0 else List.length rl + 1 : Nat) ∧ Env ac 49 [(0, pt br), (2, .slice none 0 0), (3, pt bp5), (4, .slice oa (List.length xs) oc)] ∧ Ev w [.box br [.slice a (List.length l) c, .bool s, .bool o] 154] wo [.box bp5 [.slice ra (List.length rl) rc, .bool s1, .bool od] 154, .vec ao6 cp7 1 (bys (ldO 2 0 65535 l s)) 5, .box br [.slice ta8 (List.length (ldR 2 0 65535 l s)) tc9, .bool (ldS 2 0 65535 l s), .bool o] 154, .vec oa oc 2 (List.flatMap fExt xs) 147, .grp (List.flatMap innExt xs)] ∧ (Sub ao6 cp7 (ldO 2 0 65535 l s) ra rc rl) ∧ (mn dextM ((ldO 2 0 65535 l s, ldS 2 0 65535 l s, false) : PS) = (List.map (fun y : RExt => (y.1, y.2.1.l)) xs ++ (mn dextM (rl, s1, false)).1, (mn dextM (rl, s1, false)).2)) ∧ (List.length xs + List.length rl ≤ List.length (ldO 2 0 65535 l s) + (bif s1 then 1 else 0)) ∧ (∀ y ∈ xs, List.length y.2.1.l ≤ 140737488351232) ∧ (od = dupA (List.map (fun y : RExt => (y.1, y.2.1.l)) xs))) ⟨_, none, 0, [], ao6, cp7, (ldO 2 0 65535 l s), (ldS 2 0 65535 l s), false, rfl, En21.sb, Hv23.pk [1, 2, 0, 3, 4], Sub.self, rfl, (by rw [List.length_nil, Nat.zero_add]; exact Nat.le_add_right _ _), (fun y hy => by cases hy), rfl⟩ ?_
 rintro mm30 ac26 wo27 ⟨oa, oc, xs, ra, rc, rl, s1, od, rfl, En28, Hv29, hsu, hmn, hct, hsm, hod⟩
 refine wp_seq ?_
 refine wp_seq ?_
 refine region_from ?_
 refine d_k [0,2,3,4,9] [] 1 En28 fun ac31 En32 => ?_
 refine f_o ?_
 refine c_l [0] (M := [.box bp5 [.slice ra (List.length rl) rc, .bool s1, .bool od] 154]) En32 Hv29 (fun hM33 => dmore_go _ bp5 ra (List.length rl) rc s1 od hM33) ?_
 rintro _ wo34 ⟨rfl, he35⟩
 refine ⟨_, _, [.box bp5 [.slice ra (List.length rl) rc, .bool s1, .bool od] 154, .vec ao6 cp7 1 (bys (ldO 2 0 65535 l s)) 5, .box br [.slice ta8 (List.length (ldR 2 0 65535 l s)) tc9, .bool (ldS 2 0 65535 l s), .bool o] 154, .vec oa oc 2 (List.flatMap fExt xs) 147, .grp (List.flatMap innExt xs)], rfl, he35, by kernel_rfl, fun ac37 En38 Hv39 => ?_⟩
 refine f_e ?_
 refine then_normal ?_
 refine cond_at En38 (t := !s1 && decide (0 < List.length rl)) (by kernel_rfl) (fun hc40 => ?_) (fun hc40 => ?_)
 ·
  replace hc40 : s1 = false ∧ 0 < List.length rl := by simpa using hc40
  refine wp_skip ?_
  refine then_normal ?_
  refine wp_block ?_
  refine wp_seq ?_
  refine region_from ?_
  refine d_k [0,2,3,4,11] [] 1 En38 fun ac41 En42 => ?_
  refine f_o ?_
  refine c_l [0] (M := [.box bp5 [.slice ra (List.length rl) rc, .bool s1, .bool od] 154]) En42 Hv39 (fun hM46 => dnumber_go _ bp5 2 (by omega) ra rc rl s1 od (hsu _ _ (bys_in Hv39.heap (k := 1) rfl [0] (by kernel_rfl) rfl (by first | omega | (simp; done) | (simp; omega)))) hM46) ?_
  rintro _ wo47 ⟨ta43, tc44, rfl, he48, hs45⟩
  refine ⟨_, _, [.box bp5 [.slice ta43 (List.length (dkR 2 rl s1)) tc44, .bool (tkS 2 rl s1), .bool od] 154, .vec ao6 cp7 1 (bys (ldO 2 0 65535 l s)) 5, .box br [.slice ta8 (List.length (ldR 2 0 65535 l s)) tc9, .bool (ldS 2 0 65535 l s), .bool o] 154, .vec oa oc 2 (List.flatMap fExt xs) 147, .grp (List.flatMap innExt xs)], rfl, he48, by kernel_rfl, fun ac50 En51 Hv52 => ?_⟩
  refine d_k [0,2,3,4,14] [(2, g_i .u16 (Go.Dbr.nat_to_u16 (a := ((nbV 2 rl s1 : Nat) : Int)) (n := nbV 2 rl s1) rfl))] 4 En51 fun ac53 En54 => ?_
  refine f_o ?_
  refine m_z 147 [.int .u16 0, .slice none 0 0] En54 Hv52 fun ac56 wo57 bk55 En58 Hv59 => ?_
  refine f_o ?_
  refine m_g 5 0 2 [.int .u16 ((UInt16.toNat (UInt16.ofNat (nbV 2 rl s1)) : Nat) : Int), .slice none 0 0] [.int .u16 ((UInt16.toNat (UInt16.ofNat (nbV 2 rl s1)) : Nat) : Int), .slice none 0 0] [.box bp5 [.slice ta43 (List.length (dkR 2 rl s1)) tc44, .bool (tkS 2 rl s1), .bool od] 154, .vec ao6 cp7 1 (bys (ldO 2 0 65535 l s)) 5, .box br [.slice ta8 (List.length (ldR 2 0 65535 l s)) tc9, .bool (ldS 2 0 65535 l s), .bool o] 154, .vec oa oc 2 (List.flatMap fExt xs) 147, .grp (List.flatMap innExt xs), .box bk55 [.int .u16 ((UInt16.toNat (UInt16.ofNat (nbV 2 rl s1)) : Nat) : Int), .slice none 0 0] 147] En58 Hv59 rfl rfl (by simp) (one_all (by kernel_rfl)) rfl rfl fun ac60 wo61 En62 Hv63 => ?_
  refine f_e ?_
  refine then_normal ?_
  refine wp_seq ?_
  refine region_from ?_
  refine d_k [0,2,3,4,5,15] [] 1 En62 fun ac64 En65 => ?_
  refine f_o ?_
  refine c_l [0] (M := [.box bp5 [.slice ta43 (List.length (dkR 2 rl s1)) tc44, .bool (tkS 2 rl s1), .bool od] 154]) En65 Hv63 (fun hM71 => dlist_go _ bp5 2 (by omega) 0 65535 (by omega) (by omega) ta43 tc44 (dkR 2 rl s1) (tkS 2 rl s1) od (hs45 _ _ (hsu _ _ (bys_in Hv63.heap (k := 1) rfl [0] (by kernel_rfl) rfl (by first | omega | (simp; done) | (simp; omega))))) hM71) ?_
  rintro _ wo72 ⟨ao66, cp67, ta68, tc69, rfl, he73, hs70⟩
  refine ⟨_, _, [.box bp5 [.slice ta68 (List.length (ldR 2 0 65535 (dkR 2 rl s1) (tkS 2 rl s1))) tc69, .bool (ldS 2 0 65535 (dkR 2 rl s1) (tkS 2 rl s1)), .bool od] 154, .vec ao66 cp67 1 (bys (ldO 2 0 65535 (dkR 2 rl s1) (tkS 2 rl s1))) 5, .vec ao6 cp7 1 (bys (ldO 2 0 65535 l s)) 5, .box br [.slice ta8 (List.length (ldR 2 0 65535 l s)) tc9, .bool (ldS 2 0 65535 l s), .bool o] 154, .vec oa oc 2 (List.flatMap fExt xs) 147, .grp (List.flatMap innExt xs), .box bk55 [.int .u16 ((UInt16.toNat (UInt16.ofNat (nbV 2 rl s1)) : Nat) : Int), .slice none 0 0] 147], rfl, he73, by kernel_rfl, fun ac75 En76 Hv77 => ?_⟩
  refine d_k [0,2,3,4,5,16,17] [] 3 En76 fun ac78 En79 => ?_
  refine f_o ?_
  refine m_s 6 [.box bp5 [.slice ta68 (List.length (ldR 2 0 65535 (dkR 2 rl s1) (tkS 2 rl s1))) tc69, .bool (ldS 2 0 65535 (dkR 2 rl s1) (tkS 2 rl s1)), .bool od] 154, .vec ao66 cp67 1 (bys (ldO 2 0 65535 (dkR 2 rl s1) (tkS 2 rl s1))) 5, .vec ao6 cp7 1 (bys (ldO 2 0 65535 l s)) 5, .box br [.slice ta8 (List.length (ldR 2 0 65535 l s)) tc9, .bool (ldS 2 0 65535 l s), .bool o] 154, .vec oa oc 2 (List.flatMap fExt xs) 147, .grp (List.flatMap innExt xs), .box bk55 [.int .u16 ((UInt16.toNat (UInt16.ofNat (nbV 2 rl s1)) : Nat) : Int), .slice ao66 (List.length (ldO 2 0 65535 (dkR 2 rl s1) (tkS 2 rl s1))) cp67] 147] En79 Hv77 fun ac80 wo81 En82 Hv83 => ?_
  refine f_e ?_
  refine then_normal ?_
  refine wp_seq ?_
  refine wp_seq ?_
  have hxl : List.length xs ≤ 4294967297 := by have hb1 := mn_b1 s1; omega
  refine d_r [0,2,3,4,5,6] [] En82 fun ac84 En85 => ?_
  refine then_normal ?_
  refine wp_block ?_
  refine loop_m (fun ms86 ac wo => ∃ (k : Nat) (od2 : Bool), ms86 = (List.length xs - k : Nat) ∧ Env ac 49 [(0, pt br), (2, .slice none 0 0), (3, pt bp5), (4, .slice oa (List.length xs) oc), (5, pt bk55), (6, ni k)] ∧ Ev w [.box br [.slice a (List.length l) c, .bool s, .bool o] 154] wo [.box bp5 [.slice ta68 (List.length (ldR 2 0 65535 (dkR 2 rl s1) (tkS 2 rl s1))) tc69, .bool (ldS 2 0 65535 (dkR 2 rl s1) (tkS 2 rl s1)), .bool od2] 154, .vec ao66 cp67 1 (bys (ldO 2 0 65535 (dkR 2 rl s1) (tkS 2 rl s1))) 5, .vec ao6 cp7 1 (bys (ldO 2 0 65535 l s)) 5, .box br [.slice ta8 (List.length (ldR 2 0 65535 l s)) tc9, .bool (ldS 2 0 65535 l s), .bool o] 154, .vec oa oc 2 (List.flatMap fExt xs) 147, .grp (List.flatMap innExt xs), .box bk55 [.int .u16 ((UInt16.toNat (UInt16.ofNat (nbV 2 rl s1)) : Nat) : Int), .slice ao66 (List.length (ldO 2 0 65535 (dkR 2 rl s1) (tkS 2 rl s1))) cp67] 147] ∧ (k ≤ List.length xs) ∧ (od2 = (od || hasE (UInt16.ofNat (nbV 2 rl s1)) (List.take k (List.map (fun y : RExt => (y.1, y.2.1.l)) xs))))) ⟨_, 0, od, rfl, En85.sb, Hv83.pk [0, 1, 2, 3, 4, 5, 6], (Nat.zero_le _), (by rw [List.take_zero]; exact (Bool.or_false _).symm)⟩ ?_
  rintro mm92 ac88 wo89 ⟨k, od2, rfl, En90, Hv91, hkl, ho2⟩
  refine wp_seq ?_
  refine wp_seq ?_
  refine d_r [0,2,3,4,5,6,21] [] En90 fun ac93 En94 => ?_
  refine then_normal ?_
  refine c_d (((k : Nat) : Int) < ((List.length xs : Nat) : Int)) En94 (fun hc95 => ?_) (fun hc95 => ?_)
  ·
   refine wp_skip ?_
   refine then_normal ?_
   refine wp_seq ?_
   refine wp_block ?_
   obtain ⟨adr96, had97⟩ := some_of (sv_nz (f := fExt) (sz := 2) Hv91.heap (k := 4) rfl (fun _ => rfl) (by decide)) (show k < List.length xs from by omega)
   have hb98 : k < List.length xs := by omega
   obtain ⟨⟨x100a, ⟨a_x100b, c_x100b, x100b⟩, _⟩, hx99⟩ : ∃ x, (xs)[k]? = some x := ⟨_, List.getElem?_eq_getElem hb98⟩
   rcases Bool.eq_false_or_eq_true (od2) with hb101 | hb101
   ·
    have hb101p : od2 = true := hb101
    refine r_c (fun ac wo => Env ac 49 [(0, pt br), (2, .slice none 0 0), (3, pt bp5), (4, .slice oa (List.length xs) oc), (5, pt bk55), (6, ni k)] ∧ Ev w [.box br [.slice a (List.length l) c, .bool s, .bool o] 154] wo [.box bp5 [.slice ta68 (List.length (ldR 2 0 65535 (dkR 2 rl s1) (tkS 2 rl s1))) tc69, .bool (ldS 2 0 65535 (dkR 2 rl s1) (tkS 2 rl s1)), .bool true] 154, .vec ao66 cp67 1 (bys (ldO 2 0 65535 (dkR 2 rl s1) (tkS 2 rl s1))) 5, .vec ao6 cp7 1 (bys (ldO 2 0 65535 l s)) 5, .box br [.slice ta8 (List.length (ldR 2 0 65535 l s)) tc9, .bool (ldS 2 0 65535 l s), .bool o] 154, .vec oa oc 2 (List.flatMap fExt xs) 147, .grp (List.flatMap innExt xs), .box bk55 [.int .u16 ((UInt16.toNat (UInt16.ofNat (nbV 2 rl s1)) : Nat) : Int), .slice ao66 (List.length (ldO 2 0 65535 (dkR 2 rl s1) (tkS 2 rl s1))) cp67] 147]) ?_ ?_
    ·
     refine draw_any (by kernel_rfl) 18 (by kernel_rfl) ?_
     have wo102 := Hv91.trans (Ev.drew Hv91.heap)
     refine q_a [0,1,2,3] [] 14 En94 fun ac117 En118 => ?_
     refine q_u 4 ?_
     refine m_l 0 En118 wo102 fun ac119 En120 => ?_
     refine q_a [5] [] 12 En120 fun ac121 En122 => ?_
     have En123 := En122.fx (t := 28) (congrArg Value.bool hb101)
     have En124 := En123.fx (t := 29) (congrArg Value.bool hb101)
     refine q_a [6,7,8,9,10,11,12,13,14,15,16] [] 1 En124 fun ac125 En126 => ?_
     refine q_u 17 ?_
     refine m_s 0 [.box bp5 [.slice ta68 (List.length (ldR 2 0 65535 (dkR 2 rl s1) (tkS 2 rl s1))) tc69, .bool (ldS 2 0 65535 (dkR 2 rl s1) (tkS 2 rl s1)), .bool true] 154, .vec ao66 cp67 1 (bys (ldO 2 0 65535 (dkR 2 rl s1) (tkS 2 rl s1))) 5, .vec ao6 cp7 1 (bys (ldO 2 0 65535 l s)) 5, .box br [.slice ta8 (List.length (ldR 2 0 65535 l s)) tc9, .bool (ldS 2 0 65535 l s), .bool o] 154, .vec oa oc 2 (List.flatMap fExt xs) 147, .grp (List.flatMap innExt xs), .box bk55 [.int .u16 ((UInt16.toNat (UInt16.ofNat (nbV 2 rl s1)) : Nat) : Int), .slice ao66 (List.length (ldO 2 0 65535 (dkR 2 rl s1) (tkS 2 rl s1))) cp67] 147] En126 wo102 fun ac127 wo128 En129 Hv130 => ?_
     exact a_e ⟨En129.sb, Hv130.pk [0, 1, 2, 3, 4, 5, 6]⟩
    rintro ac131 wo132 ⟨En133, Hv134⟩
    refine block_normal ?_
    refine then_normal ?_
    refine d_r [0,2,3,4,5,6] [(1, g_n (w_a k 1))] En133 fun ac135 En136 => ?_
    refine then_normal ?_
    refine ⟨_, ⟨k + 1, true, rfl, En136.sb, Hv134.pk [0, 1, 2, 3, 4, 5, 6], (by omega), (has_t (show (List.map (fun y : RExt => (y.1, y.2.1.l)) xs)[k]? = some ((fun y : RExt => (y.1, y.2.1.l)) (x100a, ⟨a_x100b, c_x100b, x100b⟩, ())) from by rw [List.getElem?_map, hx99]; rfl) ho2 hb101p)⟩, ?_⟩
    omega
   ·
    have hb101p : ¬ (od2 = true) := Bool.eq_false_iff.1 hb101
    refine r_c (fun ac wo => Env ac 49 [(0, pt br), (2, .slice none 0 0), (3, pt bp5), (4, .slice oa (List.length xs) oc), (5, pt bk55), (6, ni k)] ∧ Ev w [.box br [.slice a (List.length l) c, .bool s, .bool o] 154] wo [.box bp5 [.slice ta68 (List.length (ldR 2 0 65535 (dkR 2 rl s1) (tkS 2 rl s1))) tc69, .bool (ldS 2 0 65535 (dkR 2 rl s1) (tkS 2 rl s1)), .bool (((UInt16.toNat x100a : Nat) : Int) == ((UInt16.toNat (UInt16.ofNat (nbV 2 rl s1)) : Nat) : Int))] 154, .vec ao66 cp67 1 (bys (ldO 2 0 65535 (dkR 2 rl s1) (tkS 2 rl s1))) 5, .vec ao6 cp7 1 (bys (ldO 2 0 65535 l s)) 5, .box br [.slice ta8 (List.length (ldR 2 0 65535 l s)) tc9, .bool (ldS 2 0 65535 l s), .bool o] 154, .vec oa oc 2 (List.flatMap fExt xs) 147, .grp (List.flatMap innExt xs), .box bk55 [.int .u16 ((UInt16.toNat (UInt16.ofNat (nbV 2 rl s1)) : Nat) : Int), .slice ao66 (List.length (ldO 2 0 65535 (dkR 2 rl s1) (tkS 2 rl s1))) cp67] 147]) ?_ ?_
    ·
     refine h_s (fun wv => Ev w [.box br [.slice a (List.length l) c, .bool s, .bool o] 154] wv [.box bp5 [.slice ta68 (List.length (ldR 2 0 65535 (dkR 2 rl s1) (tkS 2 rl s1))) tc69, .bool (ldS 2 0 65535 (dkR 2 rl s1) (tkS 2 rl s1)), .bool od2] 154, .vec oa oc 2 (List.flatMap fExt xs) 147, .box bk55 [.int .u16 ((UInt16.toNat (UInt16.ofNat (nbV 2 rl s1)) : Nat) : Int), .slice ao66 (List.length (ldO 2 0 65535 (dkR 2 rl s1) (tkS 2 rl s1))) cp67] 147]) [17] 18 ?_
     have wo137 := Hv91.trans (Ev.drew Hv91.heap)
     refine q_s [0,1,2,3] [] 14 En94 (wo137.pk [0, 4, 6]) fun ac204 En205 => ?_
     refine q_l 0 4 En205 (wo137.pk [0, 4, 6]) fun ac206 En207 => ?_
     refine q_s [5] [] 12 En207 (wo137.pk [0, 4, 6]) fun ac208 En209 => ?_
     have En210 := En209.fx (t := 28) (congrArg Value.bool hb101)
     have En211 := En210.fx (t := 29) (congrArg Value.bool hb101)
     have hb214 : k < List.length xs := (by omega)
     refine q_s [6,7] [] 10 En211 (wo137.pk [0, 4, 6]) fun ac215 En216 => ?_
     refine q_f 8 (s := Instr.indexAt 36 (.slice oa (List.length xs) oc) (ni k)) (v := .pointer (some (Addr.add adr96 (k * 2)))) En216 (fun _ => Go.Dbr.run_indexsl (e := 147) (sz := 2) (j := k) (jo := k * 2) had97 (by kernel_rfl) (by kernel_rfl) (by omega) hb214 rfl _) (fun _ => wo137.pk [0, 4, 6]) fun ac217 En218 => ?_
     refine q_s [9] [] 8 En218 (wo137.pk [0, 4, 6]) fun ac219 En220 => ?_
     refine q_r 10 (s := Instr.loadAt 37 (.pointer (some (Addr.add adr96 (k * 2))))) (v := uv16 x100a) En220 (fun w hS => run_loadel (ad := adr96) (o := k * 2) rfl (hS.heap.reads (k := 1) rfl) had97 ((flat_get (sz := 2) (j := 0) (fun _ _ => rfl) hx99 (by decide)).trans rfl) (by kernel_rfl)) (wo137.pk [0, 4, 6]) fun ac221 En222 => ?_
     refine q_s [11] [] 6 En222 (wo137.pk [0, 4, 6]) fun ac223 En224 => ?_
     refine q_l 2 12 En224 (wo137.pk [0, 4, 6]) fun ac225 En226 => ?_
     refine q_s [13,14,15,16] [] 1 En226 (wo137.pk [0, 4, 6]) fun ac227 En228 => ?_
     refine q_t 17 ?_
     refine m_s 0 [.box bp5 [.slice ta68 (List.length (ldR 2 0 65535 (dkR 2 rl s1) (tkS 2 rl s1))) tc69, .bool (ldS 2 0 65535 (dkR 2 rl s1) (tkS 2 rl s1)), .bool (((UInt16.toNat x100a : Nat) : Int) == ((UInt16.toNat (UInt16.ofNat (nbV 2 rl s1)) : Nat) : Int))] 154, .vec ao66 cp67 1 (bys (ldO 2 0 65535 (dkR 2 rl s1) (tkS 2 rl s1))) 5, .vec ao6 cp7 1 (bys (ldO 2 0 65535 l s)) 5, .box br [.slice ta8 (List.length (ldR 2 0 65535 l s)) tc9, .bool (ldS 2 0 65535 l s), .bool o] 154, .vec oa oc 2 (List.flatMap fExt xs) 147, .grp (List.flatMap innExt xs), .box bk55 [.int .u16 ((UInt16.toNat (UInt16.ofNat (nbV 2 rl s1)) : Nat) : Int), .slice ao66 (List.length (ldO 2 0 65535 (dkR 2 rl s1) (tkS 2 rl s1))) cp67] 147] En228 wo137 fun ac229 wo230 En231 Hv232 => ?_
     refine ⟨q_y, ?_⟩
     exact h_e ⟨En231.sb, Hv232.pk [0, 1, 2, 3, 4, 5, 6]⟩
    rintro ac233 wo234 ⟨En235, Hv236⟩
    refine block_normal ?_
    refine then_normal ?_
    refine d_r [0,2,3,4,5,6] [(1, g_n (w_a k 1))] En235 fun ac237 En238 => ?_
    refine then_normal ?_
    refine ⟨_, ⟨k + 1, (((UInt16.toNat x100a : Nat) : Int) == ((UInt16.toNat (UInt16.ofNat (nbV 2 rl s1)) : Nat) : Int)), rfl, En238.sb, Hv236.pk [0, 1, 2, 3, 4, 5, 6], (by omega), (has_f (show (List.map (fun y : RExt => (y.1, y.2.1.l)) xs)[k]? = some ((fun y : RExt => (y.1, y.2.1.l)) (x100a, ⟨a_x100b, c_x100b, x100b⟩, ())) from by rw [List.getElem?_map, hx99]; rfl) ho2 hb101p)⟩, ?_⟩
    omega
  ·
   refine wp_exit ?_
   refine then_exit ?_
   refine then_exit ?_
   refine block_exit ?_
   refine then_normal ?_
   have hd2 : od2 = (dupA (List.map (fun y : RExt => (y.1, y.2.1.l)) xs) || hasE (UInt16.ofNat (nbV 2 rl s1)) (List.map (fun y : RExt => (y.1, y.2.1.l)) xs)) := by rw [ho2, hod, List.take_of_length_le (by rw [List.length_map]; omega)]
   refine region_from ?_
   refine d_k [0,2,3,4,5,6,41] [] 1 En94 fun ac239 En240 => ?_
   refine f_o ?_
   refine m_a 6 0 2 [.int .u16 ((UInt16.toNat (UInt16.ofNat (nbV 2 rl s1)) : Nat) : Int), .slice ao66 (List.length (ldO 2 0 65535 (dkR 2 rl s1) (tkS 2 rl s1))) cp67] En240 Hv91 rfl rfl rfl fun ac241 En242 => ?_
   refine f_o ?_
   refine op_lit (d := some 43) (t := 36) (T := 147) (m := 1) (parts := #[(0, .agg #[.int .u16 ((UInt16.toNat (UInt16.ofNat (nbV 2 rl s1)) : Nat) : Int), .slice ao66 (List.length (ldO 2 0 65535 (dkR 2 rl s1) (tkS 2 rl s1))) cp67])]) (xs := List.flatMap fExt ([(UInt16.ofNat (nbV 2 rl s1), ⟨ao66, cp67, ldO 2 0 65535 (dkR 2 rl s1) (tkS 2 rl s1)⟩, ())] : List (RExt))) (sz := 2) En242 (by kernel_rfl) (by kernel_rfl) rfl (by decide) Hv91 ?_
   intro ac244 wo245 bk243 En246 Hv247
   refine f_o ?_
   refine op_append (d := some 44) (t := 36) (tx := 36) (ty := 36) (k := 4) (p := List.length xs) (m := 1) (x := .slice (some ⟨bk243, 0, none⟩) 1 1) (bytes := 32) En246 (by kernel_rfl) Hv247 rfl (sv_len (f := fExt) (sz := 2) (fun _ => rfl) _) (Reads.src (size := 2) (tx := 36) (e' := 147) (by kernel_rfl) (Hv247.heap.reads (k := 7) rfl) rfl (fun e => by cases e) (flat_one (f := fExt) (fun _ => one_all rfl) _)) (by kernel_rfl) (z := .agg #[.int .u16 0, .slice none 0 0]) (by kernel_rfl) rfl (by decide) (by have hb1 := mn_b1 s1; omega) (by unfold maxLen; have hb1 := mn_b1 s1; omega) ?_
   intro ac252 wo253 ao248 cp249 En254 Hv255 hnz _
   clear hnz
   rw [← List.flatMap_append] at Hv255
   have ehz250 : (List.length xs) + 1 = List.length (xs ++ ([(UInt16.ofNat (nbV 2 rl s1), ⟨ao66, cp67, ldO 2 0 65535 (dkR 2 rl s1) (tkS 2 rl s1)⟩, ())] : List (RExt))) := (by first | (simp; done) | (simp; omega) | omega)
   rw [ehz250] at En254
   refine d_e [0,2,3,4,5,6] [] En254 fun ac256 En257 => ?_
   have Hv258 : Ev w [.box br [.slice a (List.length l) c, .bool s, .bool o] 154] wo253 [.box bp5 [.slice ta68 (List.length (ldR 2 0 65535 (dkR 2 rl s1) (tkS 2 rl s1))) tc69, .bool (ldS 2 0 65535 (dkR 2 rl s1) (tkS 2 rl s1)), .bool od2] 154, .vec ao6 cp7 1 (bys (ldO 2 0 65535 l s)) 5, .box br [.slice ta8 (List.length (ldR 2 0 65535 l s)) tc9, .bool (ldS 2 0 65535 l s), .bool o] 154, .vec ao248 cp249 2 (List.flatMap fExt (xs ++ ([(UInt16.ofNat (nbV 2 rl s1), ⟨ao66, cp67, ldO 2 0 65535 (dkR 2 rl s1) (tkS 2 rl s1)⟩, ())] : List (RExt)))) 147, .box bk55 [.int .u16 ((UInt16.toNat (UInt16.ofNat (nbV 2 rl s1)) : Nat) : Int), .slice ao66 (List.length (ldO 2 0 65535 (dkR 2 rl s1) (tkS 2 rl s1))) cp67] 147, .vec (some ⟨bk243, 0, none⟩) 1 2 (List.flatMap fExt ([(UInt16.ofNat (nbV 2 rl s1), ⟨ao66, cp67, ldO 2 0 65535 (dkR 2 rl s1) (tkS 2 rl s1)⟩, ())] : List (RExt))) 147, .grp (List.flatMap innExt (xs ++ ([(UInt16.ofNat (nbV 2 rl s1), ⟨ao66, cp67, ldO 2 0 65535 (dkR 2 rl s1) (tkS 2 rl s1)⟩, ())] : List (RExt))))] := Ev.group (M := [.box bp5 [.slice ta68 (List.length (ldR 2 0 65535 (dkR 2 rl s1) (tkS 2 rl s1))) tc69, .bool (ldS 2 0 65535 (dkR 2 rl s1) (tkS 2 rl s1)), .bool od2] 154, .vec ao6 cp7 1 (bys (ldO 2 0 65535 l s)) 5, .box br [.slice ta8 (List.length (ldR 2 0 65535 l s)) tc9, .bool (ldS 2 0 65535 l s), .bool o] 154, .vec ao248 cp249 2 (List.flatMap fExt (xs ++ ([(UInt16.ofNat (nbV 2 rl s1), ⟨ao66, cp67, ldO 2 0 65535 (dkR 2 rl s1) (tkS 2 rl s1)⟩, ())] : List (RExt)))) 147, .box bk55 [.int .u16 ((UInt16.toNat (UInt16.ofNat (nbV 2 rl s1)) : Nat) : Int), .slice ao66 (List.length (ldO 2 0 65535 (dkR 2 rl s1) (tkS 2 rl s1))) cp67] 147, .vec (some ⟨bk243, 0, none⟩) 1 2 (List.flatMap fExt ([(UInt16.ofNat (nbV 2 rl s1), ⟨ao66, cp67, ldO 2 0 65535 (dkR 2 rl s1) (tkS 2 rl s1)⟩, ())] : List (RExt))) 147]) Hv255 [0,2,3,4,6,7] [5,1] (by kernel_rfl) (by rw [List.flatMap_append]; rfl) (by decide)
   refine block_normal ?_
   refine then_normal ?_
   refine ⟨_, ⟨ao248, cp249, (xs ++ ([(UInt16.ofNat (nbV 2 rl s1), ⟨ao66, cp67, ldO 2 0 65535 (dkR 2 rl s1) (tkS 2 rl s1)⟩, ())] : List (RExt))), ta68, tc69, (ldR 2 0 65535 (dkR 2 rl s1) (tkS 2 rl s1)), (ldS 2 0 65535 (dkR 2 rl s1) (tkS 2 rl s1)), od2, rfl, En257.sb, Hv258.pk [0, 1, 2, 3, 6], ((hsu.trans hs45).trans hs70), (by rw [hmn, mn_step dext_dec hc40.1 hc40.2, List.map_append, List.append_assoc]; rfl), (mn_ct hc40.1 hct (dec_lt (o := false) dext_dec hc40.1 hc40.2) (dec_le (o := false) dext_dec hc40.1) hc40.2), (all_snoc hsm (Nat.le_trans (Nat.le_of_succ_le (ldO_32 (by decide) _ _)) (by decide))), (by rw [List.map_append]; exact hd2.trans (dup_snoc (ps := List.map (fun y : RExt => (y.1, y.2.1.l)) xs) (UInt16.ofNat (nbV 2 rl s1), _)).symm)⟩, ?_⟩
   exact mn_mu hc40.1 hc40.2 (dec_lt (o := false) dext_dec hc40.1 hc40.2)
 ·
  replace hc40 : ¬ (s1 = false ∧ 0 < List.length rl) := by simpa using hc40
  refine wp_exit ?_
  refine then_exit ?_
  refine then_exit ?_
  refine block_exit ?_
  refine then_normal ?_
  refine wp_seq ?_
  have hm2 : mn dextM ((ldO 2 0 65535 l s, ldS 2 0 65535 l s, false) : PS) = (List.map (fun y : RExt => (y.1, y.2.1.l)) xs, rl, s1, false) := by rw [hmn, mn_end (p := (rl, s1, false)) (more_no hc40), List.append_nil]
  have hc2 := mn_c1 hct
  refine region_from ?_
  refine d_k [0,2,3,4,45,46] [] 2 En38 fun ac259 En260 => ?_
  refine f_o ?_
  refine c_l [2,0] (M := [.box br [.slice ta8 (List.length (ldR 2 0 65535 l s)) tc9, .bool (ldS 2 0 65535 l s), .bool o] 154, .box bp5 [.slice ra (List.length rl) rc, .bool s1, .bool od] 154]) En260 Hv39 (fun hM261 => dwith_go _ br bp5 ta8 (List.length (ldR 2 0 65535 l s)) tc9 (ldS 2 0 65535 l s) o ra (List.length rl) rc s1 od hM261) ?_
  rintro _ wo262 ⟨rfl, he263⟩
  refine ⟨_, _, [.box br [.slice ta8 (List.length (ldR 2 0 65535 l s)) tc9, .bool ((ldS 2 0 65535 l s) || s1), .bool (o || od)] 154, .box bp5 [.slice ra (List.length rl) rc, .bool s1, .bool od] 154, .vec ao6 cp7 1 (bys (ldO 2 0 65535 l s)) 5, .vec oa oc 2 (List.flatMap fExt xs) 147, .grp (List.flatMap innExt xs)], rfl, he263, by kernel_rfl, fun ac265 En266 Hv267 => ?_⟩
  refine f_e ?_
  refine then_normal ?_
  refine wp_seq ?_
  refine d_r [0,2,3,4] [] En266 fun ac268 En269 => ?_
  refine then_normal ?_
  refine wp_ret ?_
  refine d_ret1 (t := 2) (v := .slice oa (List.length xs) oc) En269 (by kernel_rfl) (by kernel_rfl) ?_
  have f1 : (dextsM l s o) = (List.map (fun y : RExt => (y.1, y.2.1.l)) xs, ldR 2 0 65535 l s, ldS 2 0 65535 l s || s1, o || od) := by rw [hod]; unfold dextsM dmanyM; rw [hm2]
  rw [f1]
  exact ⟨ta8, tc9, oa, oc, xs, rfl, Hv267.pk [0, 3, 4], hs10, rfl, (Nat.le_trans hc2 (ldO_32 (by decide) _ _)), hsm⟩

end Go.Proofs.Ytofecellbfhnjaa

/- Layer 17: requests, signatures, tickets are read, by both. -/

namespace Go.Proofs.Ytofecellbfhnjaa
open Go.Dbr
set_option maxRecDepth 100000
set_option maxHeartbeats 2000000
set_option linter.unusedVariables false
set_option linter.unusedSimpArgs false

end Go.Proofs.Ytofecellbfhnjaa

/- Layer 17: greetings are begun; the question of the last one. -/


namespace Go.Proofs.Ytofecellbfhnjaa
open Go.Dbr
set_option maxRecDepth 100000
set_option maxHeartbeats 2000000
set_option linter.unusedVariables false
set_option linter.unusedSimpArgs false

/-- so many bytes, noughts behind -/
def pad32 (l : Bs) : Bs := l ++ List.drop l.length (List.replicate 32 0)
theorem pad32_len {l : Bs} (h : l.length ≤ 32) : (pad32 l).length = 32 := by rw [pad32, List.length_append, List.length_drop, List.length_replicate]; omega
theorem copy_midl {ys old : Bs} {n : Nat} (h : old.length = n) (g : ys.length ≤ n) : (ys ++ List.drop ys.length old).length = n := by rw [List.length_append, List.length_drop]; omega
theorem copy_mid {pre post : List Value} {old ys : Bs} {o m : Nat} (hp : pre.length = o) (hm : m ≤ old.length) : List.take o (pre ++ (bys old ++ post)) ++ bys ys ++ List.drop (o + m) (pre ++ (bys old ++ post)) = pre ++ (bys (ys ++ List.drop m old) ++ post) := by
  have e : bys (ys ++ List.drop m old) = bys ys ++ List.drop m (bys old) := by simp [bys, List.map_append, List.map_drop]
  rw [← List.drop_drop, List.take_left' hp, List.drop_left' hp, List.drop_append_of_le_length (by rw [bys_length]; exact hm), e]
  simp [List.append_assoc]
def begM (l : Bs) (s o : Bool) : (UInt16 × Bs × Bs) × PS := ((UInt16.ofNat (nbV 2 l s), pad32 (tkO 32 (tkR 2 l s) (tkS 2 l s)), lsO 1 0 32 (tkR 32 (tkR 2 l s) (tkS 2 l s)) (tkS 32 (tkR 2 l s) (tkS 2 l s))), lsR 1 0 32 (tkR 32 (tkR 2 l s) (tkS 2 l s)) (tkS 32 (tkR 2 l s) (tkS 2 l s)), lsS 1 0 32 (tkR 32 (tkR 2 l s) (tkS 2 l s)) (tkS 32 (tkR 2 l s) (tkS 2 l s)), o)

theorem begun_go (w : World) (br : Nat) (a : Option Addr) (c : Nat) (l : List UInt8) (s o : Bool) (i : InB w [.box br [.slice a (List.length l) c, .bool s, .bool o] 120] a c l) (hH : Heap w [.box br [.slice a (List.length l) c, .bool s, .bool o] 120]) : Calls Try.prog 203 #[pt br] w fun e w' => ∃ ta tc xva alb oac occ blc, e = .returned (.agg (List.toArray (([uv16 xva] : List Value) ++ ((bys alb) ++ ([.slice oac (List.length blc) occ, .slice none 0 0, .slice none 0 0] : List Value))))) ∧ Ev w [.box br [.slice a (List.length l) c, .bool s, .bool o] 120] w' [.box br [.slice ta (List.length ((begM l s o).2.1)) tc, .bool ((begM l s o).2.2.1), .bool ((begM l s o).2.2.2)] 120, .vec oac occ 1 (bys blc) 5] ∧ Sub a c l ta tc (begM l s o).2.1 ∧ (xva, alb, blc) = (begM l s o).1 ∧ List.length alb = 32 ∧ List.length blc ≤ 4294967296 := by
 refine d_0 [(0, pt br)] 16 Go.Proofs.Try.func203 Go.Proofs.Try.ntmps203 (hH) fun act0 En0 Hv0 => ?_
 refine wp_seq ?_
 refine region_from ?_
 refine f_o ?_
 refine m_z 75 (([.int .u16 0] : List Value) ++ ((bys (List.replicate 32 0)) ++ ([.slice none 0 0, .slice none 0 0, .slice none 0 0] : List Value))) En0 Hv0 fun ac2 wo3 bk1 En4 Hv5 => ?_
 refine f_e ?_
 refine then_normal ?_
 refine wp_seq ?_
 refine region_from ?_
 refine d_k [0,2,4] [] 1 En4 fun ac6 En7 => ?_
 refine f_o ?_
 refine c_l [0] (M := [.box br [.slice a (List.length l) c, .bool s, .bool o] 120]) En7 Hv5 (fun hM11 => u16_go _ br a c l s o ((i.ev Hv5).pick [0] (by kernel_rfl)) hM11) ?_
 rintro _ wo12 ⟨ta8, tc9, rfl, he13, hs10⟩
 refine ⟨_, _, [.box br [.slice ta8 (List.length (tkR 2 l s)) tc9, .bool (tkS 2 l s), .bool o] 120, .box bk1 (([.int .u16 0] : List Value) ++ ((bys (List.replicate 32 0)) ++ ([.slice none 0 0, .slice none 0 0, .slice none 0 0] : List Value))) 75], rfl, he13, by kernel_rfl, fun ac15 En16 Hv17 => ?_⟩
 refine d_k [0,2,6] [] 3 En16 fun ac18 En19 => ?_
 refine f_o ?_
 refine m_z 75 (([.int .u16 0] : List Value) ++ ((bys (List.replicate 32 0)) ++ ([.slice none 0 0, .slice none 0 0, .slice none 0 0] : List Value))) En19 Hv17 fun ac21 wo22 bk20 En23 Hv24 => ?_
 refine f_o ?_
 refine m_g 2 0 36 (([.int .u16 ((UInt16.toNat (UInt16.ofNat (nbV 2 l s)) : Nat) : Int)] : List Value) ++ ((bys (List.replicate 32 0)) ++ ([.slice none 0 0, .slice none 0 0, .slice none 0 0] : List Value))) (([.int .u16 ((UInt16.toNat (UInt16.ofNat (nbV 2 l s)) : Nat) : Int)] : List Value) ++ ((bys (List.replicate 32 0)) ++ ([.slice none 0 0, .slice none 0 0, .slice none 0 0] : List Value))) [.box br [.slice ta8 (List.length (tkR 2 l s)) tc9, .bool (tkS 2 l s), .bool o] 120, .box bk1 (([.int .u16 0] : List Value) ++ ((bys (List.replicate 32 0)) ++ ([.slice none 0 0, .slice none 0 0, .slice none 0 0] : List Value))) 75, .box bk20 (([.int .u16 ((UInt16.toNat (UInt16.ofNat (nbV 2 l s)) : Nat) : Int)] : List Value) ++ ((bys (List.replicate 32 0)) ++ ([.slice none 0 0, .slice none 0 0, .slice none 0 0] : List Value))) 75] En23 Hv24 rfl (len_app rfl (len_app (bys_lenh (List.length_replicate)) rfl)) (by rw [(len_app rfl (len_app (bys_lenh (List.length_replicate)) rfl))]; first | decide | (simp; done)) (one_app (one_all (by kernel_rfl)) (one_app (bys_one _) (one_all (by kernel_rfl)))) (store_whole (len_app rfl (len_app (bys_lenh (List.length_replicate)) rfl))) rfl fun ac25 wo26 En27 Hv28 => ?_
 refine f_e ?_
 refine then_normal ?_
 refine wp_seq ?_
 refine r_c (fun ac wo => ∃ (ta78 : _) (tc79 : _), Env ac 16 [(0, pt br), (2, pt bk1), (3, pt bk20)] ∧ Ev w [.box br [.slice a (List.length l) c, .bool s, .bool o] 120] wo [.box br [.slice ta78 (List.length (tkR 32 (tkR 2 l s) (tkS 2 l s))) tc79, .bool (tkS 32 (tkR 2 l s) (tkS 2 l s)), .bool o] 120, .box bk1 (([.int .u16 0] : List Value) ++ ((bys (List.replicate 32 0)) ++ ([.slice none 0 0, .slice none 0 0, .slice none 0 0] : List Value))) 75, .box bk20 (([.int .u16 ((UInt16.toNat (UInt16.ofNat (nbV 2 l s)) : Nat) : Int)] : List Value) ++ ((bys ((tkO 32 (tkR 2 l s) (tkS 2 l s)) ++ List.drop (List.length (tkO 32 (tkR 2 l s) (tkS 2 l s))) (List.replicate 32 0))) ++ ([.slice none 0 0, .slice none 0 0, .slice none 0 0] : List Value))) 75] ∧ (Sub ta8 tc9 (tkR 2 l s) ta78 tc79 (tkR 32 (tkR 2 l s) (tkS 2 l s)))) ?_ ?_
 ·
  refine h_s (fun wv => Ev w [.box br [.slice a (List.length l) c, .bool s, .bool o] 120] wv [.box bk20 (([.int .u16 ((UInt16.toNat (UInt16.ofNat (nbV 2 l s)) : Nat) : Int)] : List Value) ++ ((bys (List.replicate 32 0)) ++ ([.slice none 0 0, .slice none 0 0, .slice none 0 0] : List Value))) 75]) [4] 5 ?_
  have wo29 := Hv28.trans (Ev.drew Hv28.heap)
  refine h_name fun G hG => ?_
  have nd114 : ∀ (ac : Act) (wo : World), Env ac 16 [(0, pt br), (2, pt bk1), (3, pt bk20), (8, .slice (some ⟨bk20, 1, none⟩) 32 32), (9, pt br)] → Ev w [.box br [.slice a (List.length l) c, .bool s, .bool o] 120] wo [.box br [.slice ta8 (List.length (tkR 2 l s)) tc9, .bool (tkS 2 l s), .bool o] 120, .box bk1 (([.int .u16 0] : List Value) ++ ((bys (List.replicate 32 0)) ++ ([.slice none 0 0, .slice none 0 0, .slice none 0 0] : List Value))) 75, .box bk20 (([.int .u16 ((UInt16.toNat (UInt16.ofNat (nbV 2 l s)) : Nat) : Int)] : List Value) ++ ((bys (List.replicate 32 0)) ++ ([.slice none 0 0, .slice none 0 0, .slice none 0 0] : List Value))) 75] → G 2 #[true, true, true, false, false] ac wo := by
   intro ac115 wo116 En117 Hv118
   refine h_from hG ?_
   refine q_t 3 ?_
   refine c_l [0] (M := [.box br [.slice ta8 (List.length (tkR 2 l s)) tc9, .bool (tkS 2 l s), .bool o] 120]) En117 Hv118 (fun hM125 => take_go _ br 32 (by omega) ta8 tc9 (tkR 2 l s) (tkS 2 l s) o (hs10 _ _ ((i.ev Hv118).pick [0] (by kernel_rfl))) hM125) ?_
   rintro _ wo126 ⟨ra119, rc120, ta121, tc122, rfl, he127, hs123, hs124⟩
   refine ⟨_, _, [.box br [.slice ta121 (List.length (tkR 32 (tkR 2 l s) (tkS 2 l s))) tc122, .bool (tkS 32 (tkR 2 l s) (tkS 2 l s)), .bool o] 120, .box bk1 (([.int .u16 0] : List Value) ++ ((bys (List.replicate 32 0)) ++ ([.slice none 0 0, .slice none 0 0, .slice none 0 0] : List Value))) 75, .box bk20 (([.int .u16 ((UInt16.toNat (UInt16.ofNat (nbV 2 l s)) : Nat) : Int)] : List Value) ++ ((bys (List.replicate 32 0)) ++ ([.slice none 0 0, .slice none 0 0, .slice none 0 0] : List Value))) 75], rfl, he127, by kernel_rfl, fun ac129 En130 Hv131 => ?_⟩
   refine ⟨fun _ => Hv131.pk [2], ?_⟩
   refine q_t 4 ?_
   have hx32 : List.length (tkO 32 (tkR 2 l s) (tkS 2 l s)) ≤ 32 := tkO_len _ _ _
   have hcy132 : Nat.min (List.length (tkO 32 (tkR 2 l s) (tkS 2 l s))) 32 = List.length (tkO 32 (tkR 2 l s) (tkS 2 l s)) := by show min _ _ = _; omega
   refine op_copybox (d := some 11) (dT := 23) (sT := 23) (ty := 3) (elem := 5) (b := bk20) (off := 1) (k := 2) (m := List.length (tkO 32 (tkR 2 l s) (tkS 2 l s))) (xs := bys (tkO 32 (tkR 2 l s) (tkS 2 l s))) (ys := bys (tkO 32 (tkR 2 l s) (tkS 2 l s))) (dLen := 32) (dCap := 32) (so := ra119) (sLen := List.length (tkO 32 (tkR 2 l s) (tkS 2 l s))) (sCap := rc120) En130 (by kernel_rfl) Hv131 rfl (by kernel_rfl) (by kernel_rfl) ((hs123 _ [] (hs10 _ [] ((i.ev Hv131).pick [] (by kernel_rfl))))).reads ((hs123 _ [] (hs10 _ [] ((i.ev Hv131).pick [] (by kernel_rfl))))).nz hcy132 (List.take_of_length_le (by rw [bys_length]; omega)) (bys_length _) (by simp only [List.length_append, bys_length, List.length_cons, List.length_nil]; rw [(List.length_replicate)]; omega) (bys_one _) (cs' := ([.int .u16 ((UInt16.toNat (UInt16.ofNat (nbV 2 l s)) : Nat) : Int)] : List Value) ++ ((bys ((tkO 32 (tkR 2 l s) (tkS 2 l s)) ++ List.drop (List.length (tkO 32 (tkR 2 l s) (tkS 2 l s))) (List.replicate 32 0))) ++ ([.slice none 0 0, .slice none 0 0, .slice none 0 0] : List Value))) (copy_mid rfl (by rw [(List.length_replicate)]; omega)) (L' := [.box br [.slice ta121 (List.length (tkR 32 (tkR 2 l s) (tkS 2 l s))) tc122, .bool (tkS 32 (tkR 2 l s) (tkS 2 l s)), .bool o] 120, .box bk1 (([.int .u16 0] : List Value) ++ ((bys (List.replicate 32 0)) ++ ([.slice none 0 0, .slice none 0 0, .slice none 0 0] : List Value))) 75, .box bk20 (([.int .u16 ((UInt16.toNat (UInt16.ofNat (nbV 2 l s)) : Nat) : Int)] : List Value) ++ ((bys ((tkO 32 (tkR 2 l s) (tkS 2 l s)) ++ List.drop (List.length (tkO 32 (tkR 2 l s) (tkS 2 l s))) (List.replicate 32 0))) ++ ([.slice none 0 0, .slice none 0 0, .slice none 0 0] : List Value))) 75]) rfl ?_
   intro ac133 wo134  En135 Hv136
   refine ⟨q_y, ?_⟩
   exact h_e ⟨ta121, tc122, En135.sb, Hv136.pk [0, 1, 2], hs124⟩
  have nd137 : ∀ (ac : Act) (wo : World) (ra94 : _) (rc95 : _) (ta96 : _) (tc97 : _), Env ac 16 [(0, pt br), (2, pt bk1), (3, pt bk20), (7, .pointer (some ⟨bk20, 1, none⟩)), (10, .slice ra94 (List.length (tkO 32 (tkR 2 l s) (tkS 2 l s))) rc95)] → Ev w [.box br [.slice a (List.length l) c, .bool s, .bool o] 120] wo [.box br [.slice ta96 (List.length (tkR 32 (tkR 2 l s) (tkS 2 l s))) tc97, .bool (tkS 32 (tkR 2 l s) (tkS 2 l s)), .bool o] 120, .box bk1 (([.int .u16 0] : List Value) ++ ((bys (List.replicate 32 0)) ++ ([.slice none 0 0, .slice none 0 0, .slice none 0 0] : List Value))) 75, .box bk20 (([.int .u16 ((UInt16.toNat (UInt16.ofNat (nbV 2 l s)) : Nat) : Int)] : List Value) ++ ((bys (List.replicate 32 0)) ++ ([.slice none 0 0, .slice none 0 0, .slice none 0 0] : List Value))) 75] → (Sub ta8 tc9 (tkR 2 l s) ra94 rc95 (tkO 32 (tkR 2 l s) (tkS 2 l s))) → (Sub ta8 tc9 (tkR 2 l s) ta96 tc97 (tkR 32 (tkR 2 l s) (tkS 2 l s))) → G 2 #[true, false, true, true, false] ac wo := by
   intro ac138 wo139 ra94 rc95 ta96 tc97 En140 Hv141 hs98 hs99
   refine h_from hG ?_
   refine q_t 1 ?_
   refine op_slicearr (d := some 8) (t := 29) (e := 5) (sz := 1) (m := 32) (lo := 0) (hi := 32) (b := bk20) (off := 1) (lov := none) (hiv := none) (o := 1) En140 (by kernel_rfl) (by kernel_rfl) (by kernel_rfl) (by omega) (by omega) (by omega) (.inl ⟨rfl, rfl⟩) (.inl ⟨rfl, rfl⟩) (by omega) ?_
   intro ac142 En143
   refine ⟨fun _ => Hv141.pk [2], ?_⟩
   refine q_t 4 ?_
   have hx32 : List.length (tkO 32 (tkR 2 l s) (tkS 2 l s)) ≤ 32 := tkO_len _ _ _
   have hcy144 : Nat.min (List.length (tkO 32 (tkR 2 l s) (tkS 2 l s))) 32 = List.length (tkO 32 (tkR 2 l s) (tkS 2 l s)) := by show min _ _ = _; omega
   refine op_copybox (d := some 11) (dT := 23) (sT := 23) (ty := 3) (elem := 5) (b := bk20) (off := 1) (k := 2) (m := List.length (tkO 32 (tkR 2 l s) (tkS 2 l s))) (xs := bys (tkO 32 (tkR 2 l s) (tkS 2 l s))) (ys := bys (tkO 32 (tkR 2 l s) (tkS 2 l s))) (dLen := 32) (dCap := 32) (so := ra94) (sLen := List.length (tkO 32 (tkR 2 l s) (tkS 2 l s))) (sCap := rc95) En143 (by kernel_rfl) Hv141 rfl (by kernel_rfl) (by kernel_rfl) ((hs98 _ [] (hs10 _ [] ((i.ev Hv141).pick [] (by kernel_rfl))))).reads ((hs98 _ [] (hs10 _ [] ((i.ev Hv141).pick [] (by kernel_rfl))))).nz hcy144 (List.take_of_length_le (by rw [bys_length]; omega)) (bys_length _) (by simp only [List.length_append, bys_length, List.length_cons, List.length_nil]; rw [(List.length_replicate)]; omega) (bys_one _) (cs' := ([.int .u16 ((UInt16.toNat (UInt16.ofNat (nbV 2 l s)) : Nat) : Int)] : List Value) ++ ((bys ((tkO 32 (tkR 2 l s) (tkS 2 l s)) ++ List.drop (List.length (tkO 32 (tkR 2 l s) (tkS 2 l s))) (List.replicate 32 0))) ++ ([.slice none 0 0, .slice none 0 0, .slice none 0 0] : List Value))) (copy_mid rfl (by rw [(List.length_replicate)]; omega)) (L' := [.box br [.slice ta96 (List.length (tkR 32 (tkR 2 l s) (tkS 2 l s))) tc97, .bool (tkS 32 (tkR 2 l s) (tkS 2 l s)), .bool o] 120, .box bk1 (([.int .u16 0] : List Value) ++ ((bys (List.replicate 32 0)) ++ ([.slice none 0 0, .slice none 0 0, .slice none 0 0] : List Value))) 75, .box bk20 (([.int .u16 ((UInt16.toNat (UInt16.ofNat (nbV 2 l s)) : Nat) : Int)] : List Value) ++ ((bys ((tkO 32 (tkR 2 l s) (tkS 2 l s)) ++ List.drop (List.length (tkO 32 (tkR 2 l s) (tkS 2 l s))) (List.replicate 32 0))) ++ ([.slice none 0 0, .slice none 0 0, .slice none 0 0] : List Value))) 75]) rfl ?_
   intro ac145 wo146  En147 Hv148
   refine ⟨q_y, ?_⟩
   exact h_e ⟨ta96, tc97, En147.sb, Hv148.pk [0, 1, 2], hs99⟩
  refine h_from hG ?_
  refine q_s [0,2] [] 3 En27 (wo29.pk [2]) fun ac149 En150 => ?_
  refine h_ways [1, 3] (by kernel_rfl) rfl ?_
  refine ⟨?_, ?_, trivial⟩
  ·
   rintro _ rfl
   refine op_slicearr (d := some 8) (t := 29) (e := 5) (sz := 1) (m := 32) (lo := 0) (hi := 32) (b := bk20) (off := 1) (lov := none) (hiv := none) (o := 1) En150 (by kernel_rfl) (by kernel_rfl) (by kernel_rfl) (by omega) (by omega) (by omega) (.inl ⟨rfl, rfl⟩) (.inl ⟨rfl, rfl⟩) (by omega) ?_
   intro ac151 En152
   refine ⟨fun _ => wo29.pk [2], ?_⟩
   exact h_to hG (by kernel_rfl) (nd114 _ _ (En152.sb) (wo29.pk [0, 1, 2]))
  ·
   rintro _ rfl
   refine c_l [0] (M := [.box br [.slice ta8 (List.length (tkR 2 l s)) tc9, .bool (tkS 2 l s), .bool o] 120]) En150 wo29 (fun hM159 => take_go _ br 32 (by omega) ta8 tc9 (tkR 2 l s) (tkS 2 l s) o (hs10 _ _ ((i.ev wo29).pick [0] (by kernel_rfl))) hM159) ?_
   rintro _ wo160 ⟨ra153, rc154, ta155, tc156, rfl, he161, hs157, hs158⟩
   refine ⟨_, _, [.box br [.slice ta155 (List.length (tkR 32 (tkR 2 l s) (tkS 2 l s))) tc156, .bool (tkS 32 (tkR 2 l s) (tkS 2 l s)), .bool o] 120, .box bk1 (([.int .u16 0] : List Value) ++ ((bys (List.replicate 32 0)) ++ ([.slice none 0 0, .slice none 0 0, .slice none 0 0] : List Value))) 75, .box bk20 (([.int .u16 ((UInt16.toNat (UInt16.ofNat (nbV 2 l s)) : Nat) : Int)] : List Value) ++ ((bys (List.replicate 32 0)) ++ ([.slice none 0 0, .slice none 0 0, .slice none 0 0] : List Value))) 75], rfl, he161, by kernel_rfl, fun ac163 En164 Hv165 => ?_⟩
   refine ⟨fun _ => Hv165.pk [2], ?_⟩
   exact h_to hG (by kernel_rfl) (nd137 _ _ ra153 rc154 ta155 tc156 (En164.sb) (Hv165.pk [0, 1, 2]) hs157 hs158)
 rintro ac166 wo167 ⟨ta78, tc79, En168, Hv169, hs81⟩
 refine then_normal ?_
 refine wp_seq ?_
 refine region_from ?_
 refine d_k [0,2,3,12] [] 1 En168 fun ac170 En171 => ?_
 refine f_o ?_
 refine c_l [0] (M := [.box br [.slice ta78 (List.length (tkR 32 (tkR 2 l s) (tkS 2 l s))) tc79, .bool (tkS 32 (tkR 2 l s) (tkS 2 l s)), .bool o] 120]) En171 Hv169 (fun hM177 => list_go _ br 1 (by omega) 0 32 (by omega) (by omega) ta78 tc79 (tkR 32 (tkR 2 l s) (tkS 2 l s)) (tkS 32 (tkR 2 l s) (tkS 2 l s)) o (hs81 _ _ (hs10 _ _ ((i.ev Hv169).pick [0] (by kernel_rfl)))) hM177) ?_
 rintro _ wo178 ⟨ao172, cp173, ta174, tc175, rfl, he179, hs176⟩
 refine ⟨_, _, [.box br [.slice ta174 (List.length (lsR 1 0 32 (tkR 32 (tkR 2 l s) (tkS 2 l s)) (tkS 32 (tkR 2 l s) (tkS 2 l s)))) tc175, .bool (lsS 1 0 32 (tkR 32 (tkR 2 l s) (tkS 2 l s)) (tkS 32 (tkR 2 l s) (tkS 2 l s))), .bool o] 120, .vec ao172 cp173 1 (bys (lsO 1 0 32 (tkR 32 (tkR 2 l s) (tkS 2 l s)) (tkS 32 (tkR 2 l s) (tkS 2 l s)))) 5, .box bk1 (([.int .u16 0] : List Value) ++ ((bys (List.replicate 32 0)) ++ ([.slice none 0 0, .slice none 0 0, .slice none 0 0] : List Value))) 75, .box bk20 (([.int .u16 ((UInt16.toNat (UInt16.ofNat (nbV 2 l s)) : Nat) : Int)] : List Value) ++ ((bys ((tkO 32 (tkR 2 l s) (tkS 2 l s)) ++ List.drop (List.length (tkO 32 (tkR 2 l s) (tkS 2 l s))) (List.replicate 32 0))) ++ ([.slice none 0 0, .slice none 0 0, .slice none 0 0] : List Value))) 75], rfl, he179, by kernel_rfl, fun ac181 En182 Hv183 => ?_⟩
 refine d_k [0,2,3,13,14] [] 3 En182 fun ac184 En185 => ?_
 refine f_o ?_
 refine m_t 3 33 (.slice ao172 (List.length (lsO 1 0 32 (tkR 32 (tkR 2 l s) (tkS 2 l s)) (tkS 32 (tkR 2 l s) (tkS 2 l s)))) cp173) [.box br [.slice ta174 (List.length (lsR 1 0 32 (tkR 32 (tkR 2 l s) (tkS 2 l s)) (tkS 32 (tkR 2 l s) (tkS 2 l s)))) tc175, .bool (lsS 1 0 32 (tkR 32 (tkR 2 l s) (tkS 2 l s)) (tkS 32 (tkR 2 l s) (tkS 2 l s))), .bool o] 120, .vec ao172 cp173 1 (bys (lsO 1 0 32 (tkR 32 (tkR 2 l s) (tkS 2 l s)) (tkS 32 (tkR 2 l s) (tkS 2 l s)))) 5, .box bk1 (([.int .u16 0] : List Value) ++ ((bys (List.replicate 32 0)) ++ ([.slice none 0 0, .slice none 0 0, .slice none 0 0] : List Value))) 75, .box bk20 (([.int .u16 ((UInt16.toNat (UInt16.ofNat (nbV 2 l s)) : Nat) : Int)] : List Value) ++ ((bys ((tkO 32 (tkR 2 l s) (tkS 2 l s)) ++ List.drop (List.length (tkO 32 (tkR 2 l s) (tkS 2 l s))) (List.replicate 32 0))) ++ ([.slice ao172 (List.length (lsO 1 0 32 (tkR 32 (tkR 2 l s) (tkS 2 l s)) (tkS 32 (tkR 2 l s) (tkS 2 l s)))) cp173, .slice none 0 0, .slice none 0 0] : List Value))) 75] En185 Hv183 rfl (seg_skip (n := 1) (j := 32) rfl (seg_skip (n := 32) (j := 0) (bys_lenh (copy_midl (List.length_replicate) (tkO_len _ _ _))) rfl)) ((set_skip (n := 1) (j := 32) rfl).trans (congrArg (([.int .u16 ((UInt16.toNat (UInt16.ofNat (nbV 2 l s)) : Nat) : Int)] : List Value) ++ ·) ((set_skip (n := 32) (j := 0) (bys_lenh (copy_midl (List.length_replicate) (tkO_len _ _ _)))).trans (congrArg ((bys ((tkO 32 (tkR 2 l s) (tkS 2 l s)) ++ List.drop (List.length (tkO 32 (tkR 2 l s) (tkS 2 l s))) (List.replicate 32 0))) ++ ·) rfl)))) rfl fun ac186 wo187 En188 Hv189 => ?_
 refine f_e ?_
 refine then_normal ?_
 refine wp_seq ?_
 refine region_from ?_
 refine f_o ?_
 refine m_a 3 0 36 (([.int .u16 ((UInt16.toNat (UInt16.ofNat (nbV 2 l s)) : Nat) : Int)] : List Value) ++ ((bys ((tkO 32 (tkR 2 l s) (tkS 2 l s)) ++ List.drop (List.length (tkO 32 (tkR 2 l s) (tkS 2 l s))) (List.replicate 32 0))) ++ ([.slice ao172 (List.length (lsO 1 0 32 (tkR 32 (tkR 2 l s) (tkS 2 l s)) (tkS 32 (tkR 2 l s) (tkS 2 l s)))) cp173, .slice none 0 0, .slice none 0 0] : List Value))) En188 Hv189 rfl (load_whole (len_app rfl (len_app (bys_lenh (copy_midl (List.length_replicate) (tkO_len _ _ _))) rfl))) (len_app rfl (len_app (bys_lenh (copy_midl (List.length_replicate) (tkO_len _ _ _))) rfl)) fun ac190 En191 => ?_
 refine f_o ?_
 refine m_g 2 0 36 (([.int .u16 ((UInt16.toNat (UInt16.ofNat (nbV 2 l s)) : Nat) : Int)] : List Value) ++ ((bys ((tkO 32 (tkR 2 l s) (tkS 2 l s)) ++ List.drop (List.length (tkO 32 (tkR 2 l s) (tkS 2 l s))) (List.replicate 32 0))) ++ ([.slice ao172 (List.length (lsO 1 0 32 (tkR 32 (tkR 2 l s) (tkS 2 l s)) (tkS 32 (tkR 2 l s) (tkS 2 l s)))) cp173, .slice none 0 0, .slice none 0 0] : List Value))) (([.int .u16 ((UInt16.toNat (UInt16.ofNat (nbV 2 l s)) : Nat) : Int)] : List Value) ++ ((bys ((tkO 32 (tkR 2 l s) (tkS 2 l s)) ++ List.drop (List.length (tkO 32 (tkR 2 l s) (tkS 2 l s))) (List.replicate 32 0))) ++ ([.slice ao172 (List.length (lsO 1 0 32 (tkR 32 (tkR 2 l s) (tkS 2 l s)) (tkS 32 (tkR 2 l s) (tkS 2 l s)))) cp173, .slice none 0 0, .slice none 0 0] : List Value))) [.box br [.slice ta174 (List.length (lsR 1 0 32 (tkR 32 (tkR 2 l s) (tkS 2 l s)) (tkS 32 (tkR 2 l s) (tkS 2 l s)))) tc175, .bool (lsS 1 0 32 (tkR 32 (tkR 2 l s) (tkS 2 l s)) (tkS 32 (tkR 2 l s) (tkS 2 l s))), .bool o] 120, .vec ao172 cp173 1 (bys (lsO 1 0 32 (tkR 32 (tkR 2 l s) (tkS 2 l s)) (tkS 32 (tkR 2 l s) (tkS 2 l s)))) 5, .box bk1 (([.int .u16 ((UInt16.toNat (UInt16.ofNat (nbV 2 l s)) : Nat) : Int)] : List Value) ++ ((bys ((tkO 32 (tkR 2 l s) (tkS 2 l s)) ++ List.drop (List.length (tkO 32 (tkR 2 l s) (tkS 2 l s))) (List.replicate 32 0))) ++ ([.slice ao172 (List.length (lsO 1 0 32 (tkR 32 (tkR 2 l s) (tkS 2 l s)) (tkS 32 (tkR 2 l s) (tkS 2 l s)))) cp173, .slice none 0 0, .slice none 0 0] : List Value))) 75, .box bk20 (([.int .u16 ((UInt16.toNat (UInt16.ofNat (nbV 2 l s)) : Nat) : Int)] : List Value) ++ ((bys ((tkO 32 (tkR 2 l s) (tkS 2 l s)) ++ List.drop (List.length (tkO 32 (tkR 2 l s) (tkS 2 l s))) (List.replicate 32 0))) ++ ([.slice ao172 (List.length (lsO 1 0 32 (tkR 32 (tkR 2 l s) (tkS 2 l s)) (tkS 32 (tkR 2 l s) (tkS 2 l s)))) cp173, .slice none 0 0, .slice none 0 0] : List Value))) 75] En191 Hv189 rfl (len_app rfl (len_app (bys_lenh (copy_midl (List.length_replicate) (tkO_len _ _ _))) rfl)) (by rw [(len_app rfl (len_app (bys_lenh (List.length_replicate)) rfl))]; first | decide | (simp; done)) (one_app (one_all (by kernel_rfl)) (one_app (bys_one _) (one_all (by kernel_rfl)))) (store_whole (len_app rfl (len_app (bys_lenh (List.length_replicate)) rfl))) rfl fun ac192 wo193 En194 Hv195 => ?_
 refine f_e ?_
 refine then_normal ?_
 refine wp_ret ?_
 refine d_cell1 (v := .agg (List.toArray (([.int .u16 ((UInt16.toNat (UInt16.ofNat (nbV 2 l s)) : Nat) : Int)] : List Value) ++ ((bys ((tkO 32 (tkR 2 l s) (tkS 2 l s)) ++ List.drop (List.length (tkO 32 (tkR 2 l s) (tkS 2 l s))) (List.replicate 32 0))) ++ ([.slice ao172 (List.length (lsO 1 0 32 (tkR 32 (tkR 2 l s) (tkS 2 l s)) (tkS 32 (tkR 2 l s) (tkS 2 l s)))) cp173, .slice none 0 0, .slice none 0 0] : List Value))))) (t := 2) (T := 75) (ad := ⟨bk1, 0, none⟩) En194 (by kernel_rfl) (by kernel_rfl) (Ev.cellAgg (t := 75) (k := 2) (off := 0) (m := 36) (xs := ([.int .u16 ((UInt16.toNat (UInt16.ofNat (nbV 2 l s)) : Nat) : Int)] : List Value) ++ ((bys ((tkO 32 (tkR 2 l s) (tkS 2 l s)) ++ List.drop (List.length (tkO 32 (tkR 2 l s) (tkS 2 l s))) (List.replicate 32 0))) ++ ([.slice ao172 (List.length (lsO 1 0 32 (tkR 32 (tkR 2 l s) (tkS 2 l s)) (tkS 32 (tkR 2 l s) (tkS 2 l s)))) cp173, .slice none 0 0, .slice none 0 0] : List Value))) Hv195 rfl (load_whole (len_app rfl (len_app (bys_lenh (copy_midl (List.length_replicate) (tkO_len _ _ _))) rfl))) (len_app rfl (len_app (bys_lenh (copy_midl (List.length_replicate) (tkO_len _ _ _))) rfl)) (by kernel_rfl) (by kernel_rfl)) ?_
 exact ⟨ta174, tc175, (UInt16.ofNat (nbV 2 l s)), ((tkO 32 (tkR 2 l s) (tkS 2 l s)) ++ List.drop (List.length (tkO 32 (tkR 2 l s) (tkS 2 l s))) (List.replicate 32 0)), ao172, cp173, (lsO 1 0 32 (tkR 32 (tkR 2 l s) (tkS 2 l s)) (tkS 32 (tkR 2 l s) (tkS 2 l s))), rfl, Hv195.pk [0, 1], ((hs10.trans hs81).trans hs176), rfl, (pad32_len (tkO_len _ _ _)), (Nat.le_of_succ_le (lsO_32 (by decide) _ _))⟩

end Go.Proofs.Ytofecellbfhnjaa
