import Derived.Test.YtofecellbfhnjaaBk11
import Derived.Test.YtofecellbfhnjaaBk8
/- Layer 17: greetings are read by the program. -/


namespace Go.Proofs.Ytofecellbfhnjaa
open Go.Dbr
set_option maxRecDepth 100000
set_option maxHeartbeats 2000000
set_option linter.unusedVariables false
set_option linter.unusedSimpArgs false

def cz (v : Bs) : Bool := decide (v.length = 1) && (v.getD 0 0 != 0)
theorem cz_n {O : Bool} {v : Bs} (h : ¬ v.length = 1) : O = (O || cz v) := by rw [cz, decide_eq_false h, Bool.false_and, Bool.or_false]
theorem cz_t {O : Bool} {v : Bs} (h : O = true) : true = (O || cz v) := by rw [h, Bool.true_or]
theorem cz_f {O : Bool} {v : Bs} (hl : v.length = 1) (h : ¬ O = true) : (((UInt8.toNat (v.getD 0 0) : Nat) : Int) != 0) = (O || cz v) := by
  rw [cz, decide_eq_true hl, Bool.true_and, Bool.eq_false_iff.2 h, Bool.false_or]
  generalize v.getD 0 0 = x
  have e : (((UInt8.toNat x : Nat) : Int) == 0) = (x == 0) := by
    rw [Bool.eq_iff_iff, beq_iff_eq, beq_iff_eq]
    exact ⟨fun g => UInt8.toNat_inj.1 (by show x.toNat = 0; omega), fun g => by rw [g]; rfl⟩
  rw [bne, bne, e]
def lastQ (ps : List EX) : Bool := decide (0 ≤ fdI 41 ps) && decide (fdI 41 ps < ((ps.length : Nat) : Int) - 1)
theorem lq_t {X : Bool} {ps : List EX} (h : X = true) : true = (X || lastQ ps) := by rw [h, Bool.true_or]
theorem lq_n {X : Bool} {ps : List EX} (h : ¬ X = true) (g : ¬ fdI 41 ps ≥ 0) : false = (X || lastQ ps) := by rw [Bool.eq_false_iff.2 h, lastQ, decide_eq_false g]; rfl
theorem lq_f {α : Type} {X : Bool} {f : α → EX} {xs : List α} (h : ¬ X = true) (g : fdI 41 (List.map f xs) ≥ 0) : decide (fdI 41 (List.map f xs) < ((xs.length : Nat) : Int) - 1) = (X || lastQ (List.map f xs)) := by rw [Bool.eq_false_iff.2 h, lastQ, decide_eq_true g, List.length_map]; rfl
def cgM (l : Bs) (s o : Bool) : List UInt16 × PS := manyM u16M 2 2 (begM l s o).2.1 (begM l s o).2.2.1 (begM l s o).2.2.2
def cxM (l : Bs) (s o : Bool) : List EX × PS := extsM (lsR 1 1 1 (cgM l s o).2.1 (cgM l s o).2.2.1) (lsS 1 1 1 (cgM l s o).2.1 (cgM l s o).2.2.1) ((cgM l s o).2.2.2 || cz (lsO 1 1 1 (cgM l s o).2.1 (cgM l s o).2.2.1))
abbrev HL := UInt16 × Bs × Bs × List UInt16 × List EX
def cliM (l : Bs) (s o : Bool) : HL × PS := (((begM l s o).1.1, (begM l s o).1.2.1, (begM l s o).1.2.2, (cgM l s o).1, (cxM l s o).1), (cxM l s o).2.1, (cxM l s o).2.2.1, (cxM l s o).2.2.2 || lastQ (cxM l s o).1)

theorem ixr_1 (w : World) (t : UInt16) (et : t = 41) (g : UInt16) (ab : Option Addr) (cb : Nat) (b : Bs) (ib : InB w [] ab cb b) : Calls Try.prog 204 #[.agg #[uv16 g, .slice ab (List.length b) cb]] w fun e w' => e = .returned (.bool (((UInt16.toNat g : Nat) : Int) == ((UInt16.toNat t : Nat) : Int))) ∧ Ev w [] w' [] := by
 subst et
 refine d_0 [(0, .agg #[uv16 g, .slice ab (List.length b) cb])] 6 Go.Proofs.Try.func204 Go.Proofs.Try.ntmps204 (Heap.nil _) fun act0 En0 Hv0 => ?_
 refine wp_seq ?_
 refine region_from ?_
 refine f_o ?_
 refine m_m 147 [uv16 g, .slice ab (List.length b) cb] En0 Hv0 fun ac2 wo3 bk1 En4 Hv5 => ?_
 refine d_e [1,2] [] En4 fun ac6 En7 => ?_
 refine then_normal ?_
 refine wp_seq ?_
 refine region_from ?_
 refine d_k [2,3] [] 1 En7 fun ac8 En9 => ?_
 refine f_o ?_
 refine m_l 0 En9 Hv5 fun ac10 En11 => ?_
 refine d_e [2] [] En11 fun ac12 En13 => ?_
 refine then_normal ?_
 refine wp_ret ?_
 refine d_ret1 (t := 2) (v := .bool (((UInt16.toNat g : Nat) : Int) == (41 : Int))) En13 (by kernel_rfl) (by kernel_rfl) ?_
 exact ⟨rfl, Hv5.pk []⟩

theorem ixr_go (w : World) (t : UInt16) (et : t = 41) (al : Option Addr) (cl : Nat) (xs : List RExt) (il : InS fExt 32 (fun y : RExt => (True ∧ (InB w [] y.2.1.a y.2.1.c y.2.1.l ∧ (True)))) w [] al cl xs) : Calls Try.prog 133 #[.slice al (List.length xs) cl, .func (.func 204) #[] #[]] w fun e w' => e = .returned (.int .i64 (fdI t (List.map (fun y : RExt => (y.1, y.2.1.l)) xs))) ∧ Ev w [] w' [] := by
 refine d_0 [(0, .slice al (List.length xs) cl), (1, .func (.func 204) #[] #[])] 19 Go.Proofs.Try.func133 Go.Proofs.Try.ntmps133 (Heap.nil _) fun act0 En0 Hv0 => ?_
 refine wp_seq ?_
 refine d_r [0,1,4] [] En0 fun ac1 En2 => ?_
 refine then_normal ?_
 refine wp_seq ?_
 refine wp_seq ?_
 refine d_r [0,1,4,7,8] [] En2 fun ac3 En4 => ?_
 refine then_normal ?_
 refine wp_block ?_
 refine loop_m (fun ms5 ac wo => ∃ (i : Nat), ms5 = (List.length xs + 1 - i : Nat) ∧ Env ac 19 [(0, .slice al (List.length xs) cl), (1, .func (.func 204) #[] #[]), (7, .int .i64 ((List.length xs : Nat) : Int)), (8, ni i)] ∧ Ev w [] wo [] ∧ (fdN t (List.map (fun y : RExt => (y.1, y.2.1.l)) xs) = i + fdN t (List.drop i (List.map (fun y : RExt => (y.1, y.2.1.l)) xs)))) ⟨_, 0, rfl, En4.sb, Hv0.pk [], (by rw [List.drop_zero, Nat.zero_add])⟩ ?_
 rintro mm11 ac7 wo8 ⟨i, rfl, En9, Hv10, hfi⟩
 refine wp_seq ?_
 refine d_r [0,1,7,8,9] [] En9 fun ac12 En13 => ?_
 refine then_normal ?_
 refine wp_seq ?_
 refine c_d (((i : Nat) : Int) < ((List.length xs : Nat) : Int)) En13 (fun hc14 => ?_) (fun hc14 => ?_)
 ·
  refine wp_skip ?_
  refine then_normal ?_
  refine wp_seq ?_
  refine wp_block ?_
  refine wp_seq ?_
  refine d_r [0,1,5,7,8] [] En13 fun ac15 En16 => ?_
  refine then_normal ?_
  refine wp_seq ?_
  have hzl := il.small
  have hb19 : i < List.length xs := (by omega)
  obtain ⟨adr17, had18⟩ := some_of il.nz hb19
  have hb20 : i < List.length xs := by omega
  obtain ⟨⟨x22a, ⟨a_x22b, c_x22b, x22b⟩, _⟩, hx21⟩ : ∃ x, (xs)[i]? = some x := ⟨_, List.getElem?_eq_getElem hb20⟩
  obtain ⟨_, i_x22b, _⟩ := il.each _ (List.mem_of_getElem? hx21)
  replace i_x22b : InB w [] a_x22b c_x22b x22b := i_x22b
  refine region_from ?_
  refine d_k [0,1,5,7,8,11,12,13] [] 3 En16 fun ac23 En24 => ?_
  refine f_o ?_
  refine q_v (x := Instr.indexAt 36 (.slice al (List.length xs) cl) (ni i)) (v := .pointer (some (Addr.add adr17 (i * 2)))) En24 (Go.Dbr.run_indexsl (e := 147) (sz := 2) (j := i) (jo := i * 2) had18 (by kernel_rfl) (by kernel_rfl) (by omega) hb19 rfl _) fun ac25 En26 => ?_
  refine f_o ?_
  refine op_loadaggat (d := some 15) (t := 147) (ad := adr17) (ao := al) (ys := List.flatMap fExt xs) (o := i * 2) (m := 2) (xs := [uv16 x22a, .slice a_x22b (List.length x22b) c_x22b]) En26 (by kernel_rfl) rfl (il.ro.ev Hv10).reads had18 (fun j hj => ?_) rfl (by kernel_rfl) (by kernel_rfl) ?_
  ·
   exact flat_sub (sz := 2) (off := 0) (m := 2) (fun _ _ => rfl) hx21 (by decide) rfl j hj
  intro ac27 En28
  refine f_o ?_
  refine c_p En28 Hv10 (ixr_1 _ t et x22a a_x22b c_x22b x22b ((i_x22b.ev Hv10).pick [] (by kernel_rfl))) fun ac33 wo30 En34 Hv35 => ?_
  refine f_e ?_
  refine then_normal ?_
  refine cond_at En34 (t := ((UInt16.toNat x22a : Nat) : Int) == ((UInt16.toNat t : Nat) : Int)) (by kernel_rfl) (fun hc36 => ?_) (fun hc36 => ?_)
  ·
   replace hc36 : ((UInt16.toNat x22a : Nat) : Int) = ((UInt16.toNat t : Nat) : Int) := eq_of_beq hc36
   refine wp_seq ?_
   refine d_r [0,1,4,5,7,8] [] En34 fun ac37 En38 => ?_
   refine then_normal ?_
   refine wp_ret ?_
   refine block_ret ?_
   refine then_ret ?_
   refine then_ret ?_
   refine block_ret ?_
   refine then_ret ?_
   refine d_ret1 (t := 4) (v := ni i) En38 (by kernel_rfl) (by kernel_rfl) ?_
   obtain ⟨hN, hP⟩ := fd_hit (f := (fun y : RExt => (y.1, y.2.1.l))) hfi hx21 (u16_eq (by assumption))
   have hL : fdN t (List.map (fun y : RExt => (y.1, y.2.1.l)) xs) < List.length (List.map (fun y : RExt => (y.1, y.2.1.l)) xs) := by rw [hN, List.length_map]; omega
   exact ⟨congrArg (fun z => Ending.returned (Value.int .i64 z)) (by rw [fdI_y hL, hN]), Hv35.pk []⟩
  ·
   replace hc36 : ¬ (((UInt16.toNat x22a : Nat) : Int) = ((UInt16.toNat t : Nat) : Int)) := ne_of_beq_false hc36
   refine wp_skip ?_
   refine block_normal ?_
   refine then_normal ?_
   refine d_r [0,1,5,7,8] [(0, g_n (w_a i 1))] En34 fun ac39 En40 => ?_
   refine then_normal ?_
   refine ⟨_, ⟨i + 1, rfl, En40.sb, Hv35.pk [], (fd_go hfi hx21 (fun g => absurd (congrArg (fun z : UInt16 => ((UInt16.toNat z : Nat) : Int)) g) (by assumption)))⟩, ?_⟩
   omega
 ·
  refine wp_exit ?_
  refine then_exit ?_
  refine then_exit ?_
  refine block_exit ?_
  refine then_normal ?_
  refine wp_seq ?_
  refine d_r [0,1,4,7,8] [] En13 fun ac41 En42 => ?_
  refine then_normal ?_
  refine wp_ret ?_
  refine d_ret1 (t := 4) (v := .int .i64 (-1)) En42 (by kernel_rfl) (by kernel_rfl) ?_
  exact ⟨congrArg (fun z => Ending.returned (Value.int .i64 z)) (fdI_n (fd_end hfi (by omega))).symm, Hv10.pk []⟩

theorem ixw_1 (w : World) (t : UInt16) (et : t = 41) (g : UInt16) (ab : Option Addr) (cb : Nat) (b : Bs) (ib : InB w [] ab cb b) : Calls Try.prog 178 #[.agg #[uv16 g, .slice ab (List.length b) cb]] w fun e w' => e = .returned (.bool (((UInt16.toNat g : Nat) : Int) == ((UInt16.toNat t : Nat) : Int))) ∧ Ev w [] w' [] := by
 subst et
 refine d_0 [(0, .agg #[uv16 g, .slice ab (List.length b) cb])] 6 Go.Proofs.Try.func178 Go.Proofs.Try.ntmps178 (Heap.nil _) fun act0 En0 Hv0 => ?_
 refine wp_seq ?_
 refine region_from ?_
 refine f_o ?_
 refine m_m 147 [uv16 g, .slice ab (List.length b) cb] En0 Hv0 fun ac2 wo3 bk1 En4 Hv5 => ?_
 refine d_e [1,2] [] En4 fun ac6 En7 => ?_
 refine then_normal ?_
 refine wp_seq ?_
 refine region_from ?_
 refine d_k [2,3] [] 1 En7 fun ac8 En9 => ?_
 refine f_o ?_
 refine m_l 0 En9 Hv5 fun ac10 En11 => ?_
 refine d_e [2] [] En11 fun ac12 En13 => ?_
 refine then_normal ?_
 refine wp_ret ?_
 refine d_ret1 (t := 2) (v := .bool (((UInt16.toNat g : Nat) : Int) == (41 : Int))) En13 (by kernel_rfl) (by kernel_rfl) ?_
 exact ⟨rfl, Hv5.pk []⟩

theorem ixw_go (w : World) (t : UInt16) (et : t = 41) (al : Option Addr) (cl : Nat) (xs : List RExt) (il : InS fExt 32 (fun y : RExt => (True ∧ (InB w [] y.2.1.a y.2.1.c y.2.1.l ∧ (True)))) w [] al cl xs) : Calls Try.prog 133 #[.slice al (List.length xs) cl, .func (.func 178) #[] #[]] w fun e w' => e = .returned (.int .i64 (fdI t (List.map (fun y : RExt => (y.1, y.2.1.l)) xs))) ∧ Ev w [] w' [] := by
 refine d_0 [(0, .slice al (List.length xs) cl), (1, .func (.func 178) #[] #[])] 19 Go.Proofs.Try.func133 Go.Proofs.Try.ntmps133 (Heap.nil _) fun act0 En0 Hv0 => ?_
 refine wp_seq ?_
 refine d_r [0,1,4] [] En0 fun ac1 En2 => ?_
 refine then_normal ?_
 refine wp_seq ?_
 refine wp_seq ?_
 refine d_r [0,1,4,7,8] [] En2 fun ac3 En4 => ?_
 refine then_normal ?_
 refine wp_block ?_
 refine loop_m (fun ms5 ac wo => ∃ (i : Nat), ms5 = (List.length xs + 1 - i : Nat) ∧ Env ac 19 [(0, .slice al (List.length xs) cl), (1, .func (.func 178) #[] #[]), (7, .int .i64 ((List.length xs : Nat) : Int)), (8, ni i)] ∧ Ev w [] wo [] ∧ (fdN t (List.map (fun y : RExt => (y.1, y.2.1.l)) xs) = i + fdN t (List.drop i (List.map (fun y : RExt => (y.1, y.2.1.l)) xs)))) ⟨_, 0, rfl, En4.sb, Hv0.pk [], (by rw [List.drop_zero, Nat.zero_add])⟩ ?_
 rintro mm11 ac7 wo8 ⟨i, rfl, En9, Hv10, hfi⟩
 refine wp_seq ?_
 refine d_r [0,1,7,8,9] [] En9 fun ac12 En13 => ?_
 refine then_normal ?_
 refine wp_seq ?_
 refine c_d (((i : Nat) : Int) < ((List.length xs : Nat) : Int)) En13 (fun hc14 => ?_) (fun hc14 => ?_)
 ·
  refine wp_skip ?_
  refine then_normal ?_
  refine wp_seq ?_
  refine wp_block ?_
  refine wp_seq ?_
  refine d_r [0,1,5,7,8] [] En13 fun ac15 En16 => ?_
  refine then_normal ?_
  refine wp_seq ?_
  have hzl := il.small
  have hb19 : i < List.length xs := (by omega)
  obtain ⟨adr17, had18⟩ := some_of il.nz hb19
  have hb20 : i < List.length xs := by omega
  obtain ⟨⟨x22a, ⟨a_x22b, c_x22b, x22b⟩, _⟩, hx21⟩ : ∃ x, (xs)[i]? = some x := ⟨_, List.getElem?_eq_getElem hb20⟩
  obtain ⟨_, i_x22b, _⟩ := il.each _ (List.mem_of_getElem? hx21)
  replace i_x22b : InB w [] a_x22b c_x22b x22b := i_x22b
  refine region_from ?_
  refine d_k [0,1,5,7,8,11,12,13] [] 3 En16 fun ac23 En24 => ?_
  refine f_o ?_
  refine q_v (x := Instr.indexAt 36 (.slice al (List.length xs) cl) (ni i)) (v := .pointer (some (Addr.add adr17 (i * 2)))) En24 (Go.Dbr.run_indexsl (e := 147) (sz := 2) (j := i) (jo := i * 2) had18 (by kernel_rfl) (by kernel_rfl) (by omega) hb19 rfl _) fun ac25 En26 => ?_
  refine f_o ?_
  refine op_loadaggat (d := some 15) (t := 147) (ad := adr17) (ao := al) (ys := List.flatMap fExt xs) (o := i * 2) (m := 2) (xs := [uv16 x22a, .slice a_x22b (List.length x22b) c_x22b]) En26 (by kernel_rfl) rfl (il.ro.ev Hv10).reads had18 (fun j hj => ?_) rfl (by kernel_rfl) (by kernel_rfl) ?_
  ·
   exact flat_sub (sz := 2) (off := 0) (m := 2) (fun _ _ => rfl) hx21 (by decide) rfl j hj
  intro ac27 En28
  refine f_o ?_
  refine c_p En28 Hv10 (ixw_1 _ t et x22a a_x22b c_x22b x22b ((i_x22b.ev Hv10).pick [] (by kernel_rfl))) fun ac33 wo30 En34 Hv35 => ?_
  refine f_e ?_
  refine then_normal ?_
  refine cond_at En34 (t := ((UInt16.toNat x22a : Nat) : Int) == ((UInt16.toNat t : Nat) : Int)) (by kernel_rfl) (fun hc36 => ?_) (fun hc36 => ?_)
  ·
   replace hc36 : ((UInt16.toNat x22a : Nat) : Int) = ((UInt16.toNat t : Nat) : Int) := eq_of_beq hc36
   refine wp_seq ?_
   refine d_r [0,1,4,5,7,8] [] En34 fun ac37 En38 => ?_
   refine then_normal ?_
   refine wp_ret ?_
   refine block_ret ?_
   refine then_ret ?_
   refine then_ret ?_
   refine block_ret ?_
   refine then_ret ?_
   refine d_ret1 (t := 4) (v := ni i) En38 (by kernel_rfl) (by kernel_rfl) ?_
   obtain ⟨hN, hP⟩ := fd_hit (f := (fun y : RExt => (y.1, y.2.1.l))) hfi hx21 (u16_eq (by assumption))
   have hL : fdN t (List.map (fun y : RExt => (y.1, y.2.1.l)) xs) < List.length (List.map (fun y : RExt => (y.1, y.2.1.l)) xs) := by rw [hN, List.length_map]; omega
   exact ⟨congrArg (fun z => Ending.returned (Value.int .i64 z)) (by rw [fdI_y hL, hN]), Hv35.pk []⟩
  ·
   replace hc36 : ¬ (((UInt16.toNat x22a : Nat) : Int) = ((UInt16.toNat t : Nat) : Int)) := ne_of_beq_false hc36
   refine wp_skip ?_
   refine block_normal ?_
   refine then_normal ?_
   refine d_r [0,1,5,7,8] [(0, g_n (w_a i 1))] En34 fun ac39 En40 => ?_
   refine then_normal ?_
   refine ⟨_, ⟨i + 1, rfl, En40.sb, Hv35.pk [], (fd_go hfi hx21 (fun g => absurd (congrArg (fun z : UInt16 => ((UInt16.toNat z : Nat) : Int)) g) (by assumption)))⟩, ?_⟩
   omega
 ·
  refine wp_exit ?_
  refine then_exit ?_
  refine then_exit ?_
  refine block_exit ?_
  refine then_normal ?_
  refine wp_seq ?_
  refine d_r [0,1,4,7,8] [] En13 fun ac41 En42 => ?_
  refine then_normal ?_
  refine wp_ret ?_
  refine d_ret1 (t := 4) (v := .int .i64 (-1)) En42 (by kernel_rfl) (by kernel_rfl) ?_
  exact ⟨congrArg (fun z => Ending.returned (Value.int .i64 z)) (fdI_n (fd_end hfi (by omega))).symm, Hv10.pk []⟩

theorem client_go (w : World) (br : Nat) (a : Option Addr) (c : Nat) (l : List UInt8) (s o : Bool) (i : InB w [.box br [.slice a (List.length l) c, .bool s, .bool o] 120] a c l) (hH : Heap w [.box br [.slice a (List.length l) c, .bool s, .bool o] 120]) : Calls Try.prog 173 #[pt br] w fun e w' => ∃ ta tc xva alb oac occ blc oad ocd xsd oae oce xse, e = .returned (.agg (List.toArray (([uv16 xva] : List Value) ++ ((bys alb) ++ ([.slice oac (List.length blc) occ, .slice oad (List.length xsd) ocd, .slice oae (List.length xse) oce] : List Value))))) ∧ Ev w [.box br [.slice a (List.length l) c, .bool s, .bool o] 120] w' [.box br [.slice ta (List.length ((cliM l s o).2.1)) tc, .bool ((cliM l s o).2.2.1), .bool ((cliM l s o).2.2.2)] 120, .vec oac occ 1 (bys blc) 5, .vec oad ocd 1 (List.flatMap fU16 xsd) 37, .vec oae oce 2 (List.flatMap fExt xse) 147, .grp (List.flatMap innExt xse)] ∧ Sub a c l ta tc (cliM l s o).2.1 ∧ (xva, alb, blc, List.map (fun y : RU16 => y) xsd, List.map (fun y : RExt => (y.1, y.2.1.l)) xse) = (cliM l s o).1 ∧ List.length alb = 32 ∧ List.length blc ≤ 4294967296 ∧ List.length xsd ≤ 4294967296 ∧ List.length xse ≤ 4294967296 ∧ ∀ y ∈ xse, List.length y.2.1.l ≤ 140737488351232 := by
 refine d_0 [(0, pt br)] 55 Go.Proofs.Try.func173 Go.Proofs.Try.ntmps173 (hH) fun act0 En0 Hv0 => ?_
 refine wp_seq ?_
 refine region_from ?_
 refine f_o ?_
 refine m_z 75 (([.int .u16 0] : List Value) ++ ((bys (List.replicate 32 0)) ++ ([.slice none 0 0, .slice none 0 0, .slice none 0 0] : List Value))) En0 Hv0 fun ac2 wo3 bk1 En4 Hv5 => ?_
 refine f_e ?_
 refine then_normal ?_
 refine wp_seq ?_
 refine region_from ?_
 refine d_k [0,2,6] [] 1 En4 fun ac6 En7 => ?_
 refine f_o ?_
 refine c_l [0] (M := [.box br [.slice a (List.length l) c, .bool s, .bool o] 120]) En7 Hv5 (fun hM19 => begun_go _ br a c l s o ((i.ev Hv5).pick [0] (by kernel_rfl)) hM19) ?_
 rintro _ wo20 ⟨ta8, tc9, xva12, alb13, oac14, occ15, blc16, rfl, he21, hs10, hpu11, hf17, hf18⟩
 refine ⟨_, _, [.box br [.slice ta8 (List.length ((begM l s o).2.1)) tc9, .bool ((begM l s o).2.2.1), .bool ((begM l s o).2.2.2)] 120, .vec oac14 occ15 1 (bys blc16) 5, .box bk1 (([.int .u16 0] : List Value) ++ ((bys (List.replicate 32 0)) ++ ([.slice none 0 0, .slice none 0 0, .slice none 0 0] : List Value))) 75], rfl, he21, by kernel_rfl, fun ac23 En24 Hv25 => ?_⟩
 refine f_o ?_
 refine m_z 75 (([.int .u16 0] : List Value) ++ ((bys (List.replicate 32 0)) ++ ([.slice none 0 0, .slice none 0 0, .slice none 0 0] : List Value))) En24 Hv25 fun ac27 wo28 bk26 En29 Hv30 => ?_
 refine f_o ?_
 refine m_g 3 0 36 (([uv16 xva12] : List Value) ++ ((bys alb13) ++ ([.slice oac14 (List.length blc16) occ15, .slice none 0 0, .slice none 0 0] : List Value))) (([uv16 xva12] : List Value) ++ ((bys alb13) ++ ([.slice oac14 (List.length blc16) occ15, .slice none 0 0, .slice none 0 0] : List Value))) [.box br [.slice ta8 (List.length ((begM l s o).2.1)) tc9, .bool ((begM l s o).2.2.1), .bool ((begM l s o).2.2.2)] 120, .vec oac14 occ15 1 (bys blc16) 5, .box bk1 (([.int .u16 0] : List Value) ++ ((bys (List.replicate 32 0)) ++ ([.slice none 0 0, .slice none 0 0, .slice none 0 0] : List Value))) 75, .box bk26 (([uv16 xva12] : List Value) ++ ((bys alb13) ++ ([.slice oac14 (List.length blc16) occ15, .slice none 0 0, .slice none 0 0] : List Value))) 75] En29 Hv30 rfl (len_app rfl (len_app (bys_lenh (by assumption)) rfl)) (by rw [(len_app rfl (len_app (bys_lenh (List.length_replicate)) rfl))]; first | decide | (simp; done)) (one_app (one_all (by kernel_rfl)) (one_app (bys_one _) (one_all (by kernel_rfl)))) (store_whole (len_app rfl (len_app (bys_lenh (List.length_replicate)) rfl))) rfl fun ac31 wo32 En33 Hv34 => ?_
 refine f_e ?_
 refine then_normal ?_
 refine wp_seq ?_
 refine region_from ?_
 refine d_k [0,2,3,8] [] 1 En33 fun ac35 En36 => ?_
 refine f_o ?_
 refine c_l [0] (M := [.box br [.slice ta8 (List.length ((begM l s o).2.1)) tc9, .bool ((begM l s o).2.2.1), .bool ((begM l s o).2.2.2)] 120]) En36 Hv34 (fun hM46 => many_u16 _ br 2 (by omega) 2 (by omega) ta8 tc9 ((begM l s o).2.1) ((begM l s o).2.2.1) ((begM l s o).2.2.2) (hs10 _ _ ((i.ev Hv34).pick [0] (by kernel_rfl))) hM46) ?_
 rintro _ wo47 ⟨ta37, tc38, oa39, oc40, xs41, rfl, he48, hs42, hmn43, hct44⟩
 refine ⟨_, _, [.box br [.slice ta37 (List.length (lsR 2 2 16777215 ((begM l s o).2.1) ((begM l s o).2.2.1))) tc38, .bool (lsS 2 2 16777215 ((begM l s o).2.1) ((begM l s o).2.2.1) || (mn u16M ((lsO 2 2 16777215 ((begM l s o).2.1) ((begM l s o).2.2.1), lsS 2 2 16777215 ((begM l s o).2.1) ((begM l s o).2.2.1), false) : PS)).2.2.1), .bool (((begM l s o).2.2.2) || (mn u16M ((lsO 2 2 16777215 ((begM l s o).2.1) ((begM l s o).2.2.1), lsS 2 2 16777215 ((begM l s o).2.1) ((begM l s o).2.2.1), false) : PS)).2.2.2)] 120, .vec oa39 oc40 1 (List.flatMap fU16 xs41) 37, .vec oac14 occ15 1 (bys blc16) 5, .box bk1 (([.int .u16 0] : List Value) ++ ((bys (List.replicate 32 0)) ++ ([.slice none 0 0, .slice none 0 0, .slice none 0 0] : List Value))) 75, .box bk26 (([uv16 xva12] : List Value) ++ ((bys alb13) ++ ([.slice oac14 (List.length blc16) occ15, .slice none 0 0, .slice none 0 0] : List Value))) 75], rfl, he48, by kernel_rfl, fun ac50 En51 Hv52 => ?_⟩
 refine d_k [0,2,3,9,10] [] 3 En51 fun ac53 En54 => ?_
 refine f_o ?_
 refine m_t 4 34 (.slice oa39 (List.length xs41) oc40) [.box br [.slice ta37 (List.length (lsR 2 2 16777215 ((begM l s o).2.1) ((begM l s o).2.2.1))) tc38, .bool (lsS 2 2 16777215 ((begM l s o).2.1) ((begM l s o).2.2.1) || (mn u16M ((lsO 2 2 16777215 ((begM l s o).2.1) ((begM l s o).2.2.1), lsS 2 2 16777215 ((begM l s o).2.1) ((begM l s o).2.2.1), false) : PS)).2.2.1), .bool (((begM l s o).2.2.2) || (mn u16M ((lsO 2 2 16777215 ((begM l s o).2.1) ((begM l s o).2.2.1), lsS 2 2 16777215 ((begM l s o).2.1) ((begM l s o).2.2.1), false) : PS)).2.2.2)] 120, .vec oa39 oc40 1 (List.flatMap fU16 xs41) 37, .vec oac14 occ15 1 (bys blc16) 5, .box bk1 (([.int .u16 0] : List Value) ++ ((bys (List.replicate 32 0)) ++ ([.slice none 0 0, .slice none 0 0, .slice none 0 0] : List Value))) 75, .box bk26 (([uv16 xva12] : List Value) ++ ((bys alb13) ++ ([.slice oac14 (List.length blc16) occ15, .slice oa39 (List.length xs41) oc40, .slice none 0 0] : List Value))) 75] En54 Hv52 rfl (seg_skip (n := 1) (j := 33) rfl (seg_skip (n := 32) (j := 1) (bys_lenh (by assumption)) rfl)) ((set_skip (n := 1) (j := 33) rfl).trans (congrArg (([uv16 xva12] : List Value) ++ ·) ((set_skip (n := 32) (j := 1) (bys_lenh (by assumption))).trans (congrArg ((bys alb13) ++ ·) rfl)))) rfl fun ac55 wo56 En57 Hv58 => ?_
 refine f_e ?_
 refine then_normal ?_
 refine wp_seq ?_
 refine wp_seq ?_
 refine region_from ?_
 refine d_k [0,2,3,11] [] 1 En57 fun ac59 En60 => ?_
 refine f_o ?_
 refine c_l [0] (M := [.box br [.slice ta37 (List.length (lsR 2 2 16777215 ((begM l s o).2.1) ((begM l s o).2.2.1))) tc38, .bool (lsS 2 2 16777215 ((begM l s o).2.1) ((begM l s o).2.2.1) || (mn u16M ((lsO 2 2 16777215 ((begM l s o).2.1) ((begM l s o).2.2.1), lsS 2 2 16777215 ((begM l s o).2.1) ((begM l s o).2.2.1), false) : PS)).2.2.1), .bool (((begM l s o).2.2.2) || (mn u16M ((lsO 2 2 16777215 ((begM l s o).2.1) ((begM l s o).2.2.1), lsS 2 2 16777215 ((begM l s o).2.1) ((begM l s o).2.2.1), false) : PS)).2.2.2)] 120]) En60 Hv58 (fun hM66 => list_go _ br 1 (by omega) 1 1 (by omega) (by omega) ta37 tc38 (lsR 2 2 16777215 ((begM l s o).2.1) ((begM l s o).2.2.1)) (lsS 2 2 16777215 ((begM l s o).2.1) ((begM l s o).2.2.1) || (mn u16M ((lsO 2 2 16777215 ((begM l s o).2.1) ((begM l s o).2.2.1), lsS 2 2 16777215 ((begM l s o).2.1) ((begM l s o).2.2.1), false) : PS)).2.2.1) (((begM l s o).2.2.2) || (mn u16M ((lsO 2 2 16777215 ((begM l s o).2.1) ((begM l s o).2.2.1), lsS 2 2 16777215 ((begM l s o).2.1) ((begM l s o).2.2.1), false) : PS)).2.2.2) (hs42 _ _ (hs10 _ _ ((i.ev Hv58).pick [0] (by kernel_rfl)))) hM66) ?_
 rintro _ wo67 ⟨ao61, cp62, ta63, tc64, rfl, he68, hs65⟩
 refine ⟨_, _, [.box br [.slice ta63 (List.length (lsR 1 1 1 (lsR 2 2 16777215 ((begM l s o).2.1) ((begM l s o).2.2.1)) (lsS 2 2 16777215 ((begM l s o).2.1) ((begM l s o).2.2.1) || (mn u16M ((lsO 2 2 16777215 ((begM l s o).2.1) ((begM l s o).2.2.1), lsS 2 2 16777215 ((begM l s o).2.1) ((begM l s o).2.2.1), false) : PS)).2.2.1))) tc64, .bool (lsS 1 1 1 (lsR 2 2 16777215 ((begM l s o).2.1) ((begM l s o).2.2.1)) (lsS 2 2 16777215 ((begM l s o).2.1) ((begM l s o).2.2.1) || (mn u16M ((lsO 2 2 16777215 ((begM l s o).2.1) ((begM l s o).2.2.1), lsS 2 2 16777215 ((begM l s o).2.1) ((begM l s o).2.2.1), false) : PS)).2.2.1)), .bool (((begM l s o).2.2.2) || (mn u16M ((lsO 2 2 16777215 ((begM l s o).2.1) ((begM l s o).2.2.1), lsS 2 2 16777215 ((begM l s o).2.1) ((begM l s o).2.2.1), false) : PS)).2.2.2)] 120, .vec ao61 cp62 1 (bys (lsO 1 1 1 (lsR 2 2 16777215 ((begM l s o).2.1) ((begM l s o).2.2.1)) (lsS 2 2 16777215 ((begM l s o).2.1) ((begM l s o).2.2.1) || (mn u16M ((lsO 2 2 16777215 ((begM l s o).2.1) ((begM l s o).2.2.1), lsS 2 2 16777215 ((begM l s o).2.1) ((begM l s o).2.2.1), false) : PS)).2.2.1))) 5, .vec oa39 oc40 1 (List.flatMap fU16 xs41) 37, .vec oac14 occ15 1 (bys blc16) 5, .box bk1 (([.int .u16 0] : List Value) ++ ((bys (List.replicate 32 0)) ++ ([.slice none 0 0, .slice none 0 0, .slice none 0 0] : List Value))) 75, .box bk26 (([uv16 xva12] : List Value) ++ ((bys alb13) ++ ([.slice oac14 (List.length blc16) occ15, .slice oa39 (List.length xs41) oc40, .slice none 0 0] : List Value))) 75], rfl, he68, by kernel_rfl, fun ac70 En71 Hv72 => ?_⟩
 refine d_e [0,2,3,4] [] En71 fun ac73 En74 => ?_
 refine then_normal ?_
 refine wp_seq ?_
 refine d_r [0,2,3,4,15] [] En74 fun ac75 En76 => ?_
 refine then_normal ?_
 refine region_cut (F := fun ac wo => ∃ (b2 : Bool), Env ac 55 [(0, pt br), (2, pt bk1), (3, pt bk26), (4, .slice ao61 (List.length (lsO 1 1 1 (lsR 2 2 16777215 ((begM l s o).2.1) ((begM l s o).2.2.1)) (lsS 2 2 16777215 ((begM l s o).2.1) ((begM l s o).2.2.1) || (mn u16M ((lsO 2 2 16777215 ((begM l s o).2.1) ((begM l s o).2.2.1), lsS 2 2 16777215 ((begM l s o).2.1) ((begM l s o).2.2.1), false) : PS)).2.2.1))) cp62)] ∧ Ev w [.box br [.slice a (List.length l) c, .bool s, .bool o] 120] wo [.box br [.slice ta63 (List.length (lsR 1 1 1 (lsR 2 2 16777215 ((begM l s o).2.1) ((begM l s o).2.2.1)) (lsS 2 2 16777215 ((begM l s o).2.1) ((begM l s o).2.2.1) || (mn u16M ((lsO 2 2 16777215 ((begM l s o).2.1) ((begM l s o).2.2.1), lsS 2 2 16777215 ((begM l s o).2.1) ((begM l s o).2.2.1), false) : PS)).2.2.1))) tc64, .bool (lsS 1 1 1 (lsR 2 2 16777215 ((begM l s o).2.1) ((begM l s o).2.2.1)) (lsS 2 2 16777215 ((begM l s o).2.1) ((begM l s o).2.2.1) || (mn u16M ((lsO 2 2 16777215 ((begM l s o).2.1) ((begM l s o).2.2.1), lsS 2 2 16777215 ((begM l s o).2.1) ((begM l s o).2.2.1), false) : PS)).2.2.1)), .bool b2] 120, .vec ao61 cp62 1 (bys (lsO 1 1 1 (lsR 2 2 16777215 ((begM l s o).2.1) ((begM l s o).2.2.1)) (lsS 2 2 16777215 ((begM l s o).2.1) ((begM l s o).2.2.1) || (mn u16M ((lsO 2 2 16777215 ((begM l s o).2.1) ((begM l s o).2.2.1), lsS 2 2 16777215 ((begM l s o).2.1) ((begM l s o).2.2.1), false) : PS)).2.2.1))) 5, .vec oa39 oc40 1 (List.flatMap fU16 xs41) 37, .vec oac14 occ15 1 (bys blc16) 5, .box bk1 (([.int .u16 0] : List Value) ++ ((bys (List.replicate 32 0)) ++ ([.slice none 0 0, .slice none 0 0, .slice none 0 0] : List Value))) 75, .box bk26 (([uv16 xva12] : List Value) ++ ((bys alb13) ++ ([.slice oac14 (List.length blc16) occ15, .slice oa39 (List.length xs41) oc40, .slice none 0 0] : List Value))) 75] ∧ (b2 = ((((begM l s o).2.2.2) || (mn u16M ((lsO 2 2 16777215 ((begM l s o).2.1) ((begM l s o).2.2.1), lsS 2 2 16777215 ((begM l s o).2.1) ((begM l s o).2.2.1), false) : PS)).2.2.2) || cz (lsO 1 1 1 (lsR 2 2 16777215 ((begM l s o).2.1) ((begM l s o).2.2.1)) (lsS 2 2 16777215 ((begM l s o).2.1) ((begM l s o).2.2.1) || (mn u16M ((lsO 2 2 16777215 ((begM l s o).2.1) ((begM l s o).2.2.1), lsS 2 2 16777215 ((begM l s o).2.1) ((begM l s o).2.2.1), false) : PS)).2.2.1))))) ?_ ?_
 ·
  refine c_e ((List.length (lsO 1 1 1 (lsR 2 2 16777215 ((begM l s o).2.1) ((begM l s o).2.2.1)) (lsS 2 2 16777215 ((begM l s o).2.1) ((begM l s o).2.2.1) || (mn u16M ((lsO 2 2 16777215 ((begM l s o).2.1) ((begM l s o).2.2.1), lsS 2 2 16777215 ((begM l s o).2.1) ((begM l s o).2.2.1), false) : PS)).2.2.1)) : Nat) : Int) (1 : Int) En76 (fun hc77 => ?_) (fun hc77 => ?_)
  ·
   refine region_from ?_
   refine d_k [0,2,3,4,16,19] [] 4 En76 fun ac78 En79 => ?_
   refine f_o ?_
   refine m_l 0 En79 Hv72 fun ac80 En81 => ?_
   refine d_k [0,2,3,4,16,21] [] 6 En81 fun ac82 En83 => ?_
   rcases Bool.eq_false_or_eq_true ((((begM l s o).2.2.2) || (mn u16M ((lsO 2 2 16777215 ((begM l s o).2.1) ((begM l s o).2.2.1), lsS 2 2 16777215 ((begM l s o).2.1) ((begM l s o).2.2.1), false) : PS)).2.2.2)) with hb84 | hb84
   ·
    have En85 := En83.fx (t := 21) (congrArg Value.bool hb84)
    have hp86 : (((begM l s o).2.2.2) || (mn u16M ((lsO 2 2 16777215 ((begM l s o).2.1) ((begM l s o).2.2.1), lsS 2 2 16777215 ((begM l s o).2.1) ((begM l s o).2.2.1), false) : PS)).2.2.2) = true := hb84
    refine d_k [0,2,3,4,26,28] [] 13 En85 fun ac87 En88 => ?_
    refine f_o ?_
    refine m_s 0 [.box br [.slice ta63 (List.length (lsR 1 1 1 (lsR 2 2 16777215 ((begM l s o).2.1) ((begM l s o).2.2.1)) (lsS 2 2 16777215 ((begM l s o).2.1) ((begM l s o).2.2.1) || (mn u16M ((lsO 2 2 16777215 ((begM l s o).2.1) ((begM l s o).2.2.1), lsS 2 2 16777215 ((begM l s o).2.1) ((begM l s o).2.2.1), false) : PS)).2.2.1))) tc64, .bool (lsS 1 1 1 (lsR 2 2 16777215 ((begM l s o).2.1) ((begM l s o).2.2.1)) (lsS 2 2 16777215 ((begM l s o).2.1) ((begM l s o).2.2.1) || (mn u16M ((lsO 2 2 16777215 ((begM l s o).2.1) ((begM l s o).2.2.1), lsS 2 2 16777215 ((begM l s o).2.1) ((begM l s o).2.2.1), false) : PS)).2.2.1)), .bool true] 120, .vec ao61 cp62 1 (bys (lsO 1 1 1 (lsR 2 2 16777215 ((begM l s o).2.1) ((begM l s o).2.2.1)) (lsS 2 2 16777215 ((begM l s o).2.1) ((begM l s o).2.2.1) || (mn u16M ((lsO 2 2 16777215 ((begM l s o).2.1) ((begM l s o).2.2.1), lsS 2 2 16777215 ((begM l s o).2.1) ((begM l s o).2.2.1), false) : PS)).2.2.1))) 5, .vec oa39 oc40 1 (List.flatMap fU16 xs41) 37, .vec oac14 occ15 1 (bys blc16) 5, .box bk1 (([.int .u16 0] : List Value) ++ ((bys (List.replicate 32 0)) ++ ([.slice none 0 0, .slice none 0 0, .slice none 0 0] : List Value))) 75, .box bk26 (([uv16 xva12] : List Value) ++ ((bys alb13) ++ ([.slice oac14 (List.length blc16) occ15, .slice oa39 (List.length xs41) oc40, .slice none 0 0] : List Value))) 75] En88 Hv72 fun ac89 wo90 En91 Hv92 => ?_
    refine f_e ?_
    exact ⟨rfl, ⟨true, En91.sb, Hv92.pk [0, 1, 2, 3, 4, 5], (by first | exact cz_n (by omega) | exact cz_t (by assumption) | exact cz_f (by omega) (by assumption))⟩⟩
   ·
    have En93 := En83.fx (t := 21) (congrArg Value.bool hb84)
    have hp94 : ¬ ((((begM l s o).2.2.2) || (mn u16M ((lsO 2 2 16777215 ((begM l s o).2.1) ((begM l s o).2.2.1), lsS 2 2 16777215 ((begM l s o).2.1) ((begM l s o).2.2.1), false) : PS)).2.2.2) = true) := Bool.eq_false_iff.1 hb84
    have hb97 : 0 < List.length (lsO 1 1 1 (lsR 2 2 16777215 ((begM l s o).2.1) ((begM l s o).2.2.1)) (lsS 2 2 16777215 ((begM l s o).2.1) ((begM l s o).2.2.1) || (mn u16M ((lsO 2 2 16777215 ((begM l s o).2.1) ((begM l s o).2.2.1), lsS 2 2 16777215 ((begM l s o).2.1) ((begM l s o).2.2.1), false) : PS)).2.2.1)) := (by omega)
    obtain ⟨adr95, had96⟩ := some_of (bys_vnz Hv72.heap (k := 1) rfl) hb97
    refine d_k [0,2,3,4,16,21,22] [] 7 En93 fun ac98 En99 => ?_
    refine f_o ?_
    refine q_v (x := Instr.indexAt 23 (.slice ao61 (List.length (lsO 1 1 1 (lsR 2 2 16777215 ((begM l s o).2.1) ((begM l s o).2.2.1)) (lsS 2 2 16777215 ((begM l s o).2.1) ((begM l s o).2.2.1) || (mn u16M ((lsO 2 2 16777215 ((begM l s o).2.1) ((begM l s o).2.2.1), lsS 2 2 16777215 ((begM l s o).2.1) ((begM l s o).2.2.1), false) : PS)).2.2.1))) cp62) (.int .i64 0)) (v := .pointer (some (Addr.add adr95 0))) En99 (Go.Dbr.run_indexsl (e := 5) (sz := 1) (j := 0) (jo := 0) had96 (by kernel_rfl) (by kernel_rfl) (by omega) hb97 (Nat.mul_one _) _) fun ac100 En101 => ?_
    refine f_o ?_
    have hb102 : 0 < List.length (lsO 1 1 1 (lsR 2 2 16777215 ((begM l s o).2.1) ((begM l s o).2.2.1)) (lsS 2 2 16777215 ((begM l s o).2.1) ((begM l s o).2.2.1) || (mn u16M ((lsO 2 2 16777215 ((begM l s o).2.1) ((begM l s o).2.2.1), lsS 2 2 16777215 ((begM l s o).2.1) ((begM l s o).2.2.1), false) : PS)).2.2.1)) := by omega
    refine op_loadel (d := some 24) (t := 5) (ad := adr95) (ao := ao61) (xs := bys (lsO 1 1 1 (lsR 2 2 16777215 ((begM l s o).2.1) ((begM l s o).2.2.1)) (lsS 2 2 16777215 ((begM l s o).2.1) ((begM l s o).2.2.1) || (mn u16M ((lsO 2 2 16777215 ((begM l s o).2.1) ((begM l s o).2.2.1), lsS 2 2 16777215 ((begM l s o).2.1) ((begM l s o).2.2.1), false) : PS)).2.2.1))) (j := 0) (v := .int .u8 ((UInt8.toNat (List.getD (lsO 1 1 1 (lsR 2 2 16777215 ((begM l s o).2.1) ((begM l s o).2.2.1)) (lsS 2 2 16777215 ((begM l s o).2.1) ((begM l s o).2.2.1) || (mn u16M ((lsO 2 2 16777215 ((begM l s o).2.1) ((begM l s o).2.2.1), lsS 2 2 16777215 ((begM l s o).2.1) ((begM l s o).2.2.1), false) : PS)).2.2.1)) 0 0) : Nat) : Int)) En101 (by kernel_rfl) (Hv72.heap.reads (k := 1) rfl) had96 (bys_getD hb102) (by kernel_rfl) ?_
    intro ac103 En104
    refine d_k [0,2,3,4,26,28] [] 13 En104 fun ac105 En106 => ?_
    refine f_o ?_
    refine m_s 0 [.box br [.slice ta63 (List.length (lsR 1 1 1 (lsR 2 2 16777215 ((begM l s o).2.1) ((begM l s o).2.2.1)) (lsS 2 2 16777215 ((begM l s o).2.1) ((begM l s o).2.2.1) || (mn u16M ((lsO 2 2 16777215 ((begM l s o).2.1) ((begM l s o).2.2.1), lsS 2 2 16777215 ((begM l s o).2.1) ((begM l s o).2.2.1), false) : PS)).2.2.1))) tc64, .bool (lsS 1 1 1 (lsR 2 2 16777215 ((begM l s o).2.1) ((begM l s o).2.2.1)) (lsS 2 2 16777215 ((begM l s o).2.1) ((begM l s o).2.2.1) || (mn u16M ((lsO 2 2 16777215 ((begM l s o).2.1) ((begM l s o).2.2.1), lsS 2 2 16777215 ((begM l s o).2.1) ((begM l s o).2.2.1), false) : PS)).2.2.1)), .bool (((UInt8.toNat (List.getD (lsO 1 1 1 (lsR 2 2 16777215 ((begM l s o).2.1) ((begM l s o).2.2.1)) (lsS 2 2 16777215 ((begM l s o).2.1) ((begM l s o).2.2.1) || (mn u16M ((lsO 2 2 16777215 ((begM l s o).2.1) ((begM l s o).2.2.1), lsS 2 2 16777215 ((begM l s o).2.1) ((begM l s o).2.2.1), false) : PS)).2.2.1)) 0 0) : Nat) : Int) != (0 : Int))] 120, .vec ao61 cp62 1 (bys (lsO 1 1 1 (lsR 2 2 16777215 ((begM l s o).2.1) ((begM l s o).2.2.1)) (lsS 2 2 16777215 ((begM l s o).2.1) ((begM l s o).2.2.1) || (mn u16M ((lsO 2 2 16777215 ((begM l s o).2.1) ((begM l s o).2.2.1), lsS 2 2 16777215 ((begM l s o).2.1) ((begM l s o).2.2.1), false) : PS)).2.2.1))) 5, .vec oa39 oc40 1 (List.flatMap fU16 xs41) 37, .vec oac14 occ15 1 (bys blc16) 5, .box bk1 (([.int .u16 0] : List Value) ++ ((bys (List.replicate 32 0)) ++ ([.slice none 0 0, .slice none 0 0, .slice none 0 0] : List Value))) 75, .box bk26 (([uv16 xva12] : List Value) ++ ((bys alb13) ++ ([.slice oac14 (List.length blc16) occ15, .slice oa39 (List.length xs41) oc40, .slice none 0 0] : List Value))) 75] En106 Hv72 fun ac107 wo108 En109 Hv110 => ?_
    refine f_e ?_
    exact ⟨rfl, ⟨(((UInt8.toNat (List.getD (lsO 1 1 1 (lsR 2 2 16777215 ((begM l s o).2.1) ((begM l s o).2.2.1)) (lsS 2 2 16777215 ((begM l s o).2.1) ((begM l s o).2.2.1) || (mn u16M ((lsO 2 2 16777215 ((begM l s o).2.1) ((begM l s o).2.2.1), lsS 2 2 16777215 ((begM l s o).2.1) ((begM l s o).2.2.1), false) : PS)).2.2.1)) 0 0) : Nat) : Int) != (0 : Int)), En109.sb, Hv110.pk [0, 1, 2, 3, 4, 5], (by first | exact cz_n (by omega) | exact cz_t (by assumption) | exact cz_f (by omega) (by assumption))⟩⟩
  ·
   refine wp_skip ?_
   exact ⟨rfl, ⟨(((begM l s o).2.2.2) || (mn u16M ((lsO 2 2 16777215 ((begM l s o).2.1) ((begM l s o).2.2.1), lsS 2 2 16777215 ((begM l s o).2.1) ((begM l s o).2.2.1), false) : PS)).2.2.2), En76.sb, Hv72.pk [0, 1, 2, 3, 4, 5], (by first | exact cz_n (by omega) | exact cz_t (by assumption) | exact cz_f (by omega) (by assumption))⟩⟩
 ·
  rintro ac111 wo112 ⟨b2, En113, Hv114, hb2⟩
  refine then_normal ?_
  refine wp_seq ?_
  subst hb2
  refine region_from ?_
  refine d_k [0,2,3,4,29] [] 1 En113 fun ac115 En116 => ?_
  refine f_o ?_
  refine c_l [0] (M := [.box br [.slice ta63 (List.length (lsR 1 1 1 (lsR 2 2 16777215 ((begM l s o).2.1) ((begM l s o).2.2.1)) (lsS 2 2 16777215 ((begM l s o).2.1) ((begM l s o).2.2.1) || (mn u16M ((lsO 2 2 16777215 ((begM l s o).2.1) ((begM l s o).2.2.1), lsS 2 2 16777215 ((begM l s o).2.1) ((begM l s o).2.2.1), false) : PS)).2.2.1))) tc64, .bool (lsS 1 1 1 (lsR 2 2 16777215 ((begM l s o).2.1) ((begM l s o).2.2.1)) (lsS 2 2 16777215 ((begM l s o).2.1) ((begM l s o).2.2.1) || (mn u16M ((lsO 2 2 16777215 ((begM l s o).2.1) ((begM l s o).2.2.1), lsS 2 2 16777215 ((begM l s o).2.1) ((begM l s o).2.2.1), false) : PS)).2.2.1)), .bool ((((begM l s o).2.2.2) || (mn u16M ((lsO 2 2 16777215 ((begM l s o).2.1) ((begM l s o).2.2.1), lsS 2 2 16777215 ((begM l s o).2.1) ((begM l s o).2.2.1), false) : PS)).2.2.2) || cz (lsO 1 1 1 (lsR 2 2 16777215 ((begM l s o).2.1) ((begM l s o).2.2.1)) (lsS 2 2 16777215 ((begM l s o).2.1) ((begM l s o).2.2.1) || (mn u16M ((lsO 2 2 16777215 ((begM l s o).2.1) ((begM l s o).2.2.1), lsS 2 2 16777215 ((begM l s o).2.1) ((begM l s o).2.2.1), false) : PS)).2.2.1)))] 120]) En116 Hv114 (fun hM126 => exts_go _ br ta63 tc64 (lsR 1 1 1 (lsR 2 2 16777215 ((begM l s o).2.1) ((begM l s o).2.2.1)) (lsS 2 2 16777215 ((begM l s o).2.1) ((begM l s o).2.2.1) || (mn u16M ((lsO 2 2 16777215 ((begM l s o).2.1) ((begM l s o).2.2.1), lsS 2 2 16777215 ((begM l s o).2.1) ((begM l s o).2.2.1), false) : PS)).2.2.1)) (lsS 1 1 1 (lsR 2 2 16777215 ((begM l s o).2.1) ((begM l s o).2.2.1)) (lsS 2 2 16777215 ((begM l s o).2.1) ((begM l s o).2.2.1) || (mn u16M ((lsO 2 2 16777215 ((begM l s o).2.1) ((begM l s o).2.2.1), lsS 2 2 16777215 ((begM l s o).2.1) ((begM l s o).2.2.1), false) : PS)).2.2.1)) ((((begM l s o).2.2.2) || (mn u16M ((lsO 2 2 16777215 ((begM l s o).2.1) ((begM l s o).2.2.1), lsS 2 2 16777215 ((begM l s o).2.1) ((begM l s o).2.2.1), false) : PS)).2.2.2) || cz (lsO 1 1 1 (lsR 2 2 16777215 ((begM l s o).2.1) ((begM l s o).2.2.1)) (lsS 2 2 16777215 ((begM l s o).2.1) ((begM l s o).2.2.1) || (mn u16M ((lsO 2 2 16777215 ((begM l s o).2.1) ((begM l s o).2.2.1), lsS 2 2 16777215 ((begM l s o).2.1) ((begM l s o).2.2.1), false) : PS)).2.2.1))) (hs65 _ _ (hs42 _ _ (hs10 _ _ ((i.ev Hv114).pick [0] (by kernel_rfl))))) hM126) ?_
  rintro _ wo127 ⟨ta117, tc118, oa121, oc122, xs123, rfl, he128, hs119, hpu120, hf124, hf125⟩
  refine ⟨_, _, [.box br [.slice ta117 (List.length ((extsM (lsR 1 1 1 (lsR 2 2 16777215 ((begM l s o).2.1) ((begM l s o).2.2.1)) (lsS 2 2 16777215 ((begM l s o).2.1) ((begM l s o).2.2.1) || (mn u16M ((lsO 2 2 16777215 ((begM l s o).2.1) ((begM l s o).2.2.1), lsS 2 2 16777215 ((begM l s o).2.1) ((begM l s o).2.2.1), false) : PS)).2.2.1)) (lsS 1 1 1 (lsR 2 2 16777215 ((begM l s o).2.1) ((begM l s o).2.2.1)) (lsS 2 2 16777215 ((begM l s o).2.1) ((begM l s o).2.2.1) || (mn u16M ((lsO 2 2 16777215 ((begM l s o).2.1) ((begM l s o).2.2.1), lsS 2 2 16777215 ((begM l s o).2.1) ((begM l s o).2.2.1), false) : PS)).2.2.1)) ((((begM l s o).2.2.2) || (mn u16M ((lsO 2 2 16777215 ((begM l s o).2.1) ((begM l s o).2.2.1), lsS 2 2 16777215 ((begM l s o).2.1) ((begM l s o).2.2.1), false) : PS)).2.2.2) || cz (lsO 1 1 1 (lsR 2 2 16777215 ((begM l s o).2.1) ((begM l s o).2.2.1)) (lsS 2 2 16777215 ((begM l s o).2.1) ((begM l s o).2.2.1) || (mn u16M ((lsO 2 2 16777215 ((begM l s o).2.1) ((begM l s o).2.2.1), lsS 2 2 16777215 ((begM l s o).2.1) ((begM l s o).2.2.1), false) : PS)).2.2.1)))).2.1)) tc118, .bool ((extsM (lsR 1 1 1 (lsR 2 2 16777215 ((begM l s o).2.1) ((begM l s o).2.2.1)) (lsS 2 2 16777215 ((begM l s o).2.1) ((begM l s o).2.2.1) || (mn u16M ((lsO 2 2 16777215 ((begM l s o).2.1) ((begM l s o).2.2.1), lsS 2 2 16777215 ((begM l s o).2.1) ((begM l s o).2.2.1), false) : PS)).2.2.1)) (lsS 1 1 1 (lsR 2 2 16777215 ((begM l s o).2.1) ((begM l s o).2.2.1)) (lsS 2 2 16777215 ((begM l s o).2.1) ((begM l s o).2.2.1) || (mn u16M ((lsO 2 2 16777215 ((begM l s o).2.1) ((begM l s o).2.2.1), lsS 2 2 16777215 ((begM l s o).2.1) ((begM l s o).2.2.1), false) : PS)).2.2.1)) ((((begM l s o).2.2.2) || (mn u16M ((lsO 2 2 16777215 ((begM l s o).2.1) ((begM l s o).2.2.1), lsS 2 2 16777215 ((begM l s o).2.1) ((begM l s o).2.2.1), false) : PS)).2.2.2) || cz (lsO 1 1 1 (lsR 2 2 16777215 ((begM l s o).2.1) ((begM l s o).2.2.1)) (lsS 2 2 16777215 ((begM l s o).2.1) ((begM l s o).2.2.1) || (mn u16M ((lsO 2 2 16777215 ((begM l s o).2.1) ((begM l s o).2.2.1), lsS 2 2 16777215 ((begM l s o).2.1) ((begM l s o).2.2.1), false) : PS)).2.2.1)))).2.2.1), .bool ((extsM (lsR 1 1 1 (lsR 2 2 16777215 ((begM l s o).2.1) ((begM l s o).2.2.1)) (lsS 2 2 16777215 ((begM l s o).2.1) ((begM l s o).2.2.1) || (mn u16M ((lsO 2 2 16777215 ((begM l s o).2.1) ((begM l s o).2.2.1), lsS 2 2 16777215 ((begM l s o).2.1) ((begM l s o).2.2.1), false) : PS)).2.2.1)) (lsS 1 1 1 (lsR 2 2 16777215 ((begM l s o).2.1) ((begM l s o).2.2.1)) (lsS 2 2 16777215 ((begM l s o).2.1) ((begM l s o).2.2.1) || (mn u16M ((lsO 2 2 16777215 ((begM l s o).2.1) ((begM l s o).2.2.1), lsS 2 2 16777215 ((begM l s o).2.1) ((begM l s o).2.2.1), false) : PS)).2.2.1)) ((((begM l s o).2.2.2) || (mn u16M ((lsO 2 2 16777215 ((begM l s o).2.1) ((begM l s o).2.2.1), lsS 2 2 16777215 ((begM l s o).2.1) ((begM l s o).2.2.1), false) : PS)).2.2.2) || cz (lsO 1 1 1 (lsR 2 2 16777215 ((begM l s o).2.1) ((begM l s o).2.2.1)) (lsS 2 2 16777215 ((begM l s o).2.1) ((begM l s o).2.2.1) || (mn u16M ((lsO 2 2 16777215 ((begM l s o).2.1) ((begM l s o).2.2.1), lsS 2 2 16777215 ((begM l s o).2.1) ((begM l s o).2.2.1), false) : PS)).2.2.1)))).2.2.2)] 120, .vec oa121 oc122 2 (List.flatMap fExt xs123) 147, .grp (List.flatMap innExt xs123), .vec ao61 cp62 1 (bys (lsO 1 1 1 (lsR 2 2 16777215 ((begM l s o).2.1) ((begM l s o).2.2.1)) (lsS 2 2 16777215 ((begM l s o).2.1) ((begM l s o).2.2.1) || (mn u16M ((lsO 2 2 16777215 ((begM l s o).2.1) ((begM l s o).2.2.1), lsS 2 2 16777215 ((begM l s o).2.1) ((begM l s o).2.2.1), false) : PS)).2.2.1))) 5, .vec oa39 oc40 1 (List.flatMap fU16 xs41) 37, .vec oac14 occ15 1 (bys blc16) 5, .box bk1 (([.int .u16 0] : List Value) ++ ((bys (List.replicate 32 0)) ++ ([.slice none 0 0, .slice none 0 0, .slice none 0 0] : List Value))) 75, .box bk26 (([uv16 xva12] : List Value) ++ ((bys alb13) ++ ([.slice oac14 (List.length blc16) occ15, .slice oa39 (List.length xs41) oc40, .slice none 0 0] : List Value))) 75], rfl, he128, by kernel_rfl, fun ac130 En131 Hv132 => ?_⟩
  refine d_k [0,2,3,4,30,31] [] 3 En131 fun ac133 En134 => ?_
  refine f_o ?_
  refine m_t 7 35 (.slice oa121 (List.length xs123) oc122) [.box br [.slice ta117 (List.length ((extsM (lsR 1 1 1 (lsR 2 2 16777215 ((begM l s o).2.1) ((begM l s o).2.2.1)) (lsS 2 2 16777215 ((begM l s o).2.1) ((begM l s o).2.2.1) || (mn u16M ((lsO 2 2 16777215 ((begM l s o).2.1) ((begM l s o).2.2.1), lsS 2 2 16777215 ((begM l s o).2.1) ((begM l s o).2.2.1), false) : PS)).2.2.1)) (lsS 1 1 1 (lsR 2 2 16777215 ((begM l s o).2.1) ((begM l s o).2.2.1)) (lsS 2 2 16777215 ((begM l s o).2.1) ((begM l s o).2.2.1) || (mn u16M ((lsO 2 2 16777215 ((begM l s o).2.1) ((begM l s o).2.2.1), lsS 2 2 16777215 ((begM l s o).2.1) ((begM l s o).2.2.1), false) : PS)).2.2.1)) ((((begM l s o).2.2.2) || (mn u16M ((lsO 2 2 16777215 ((begM l s o).2.1) ((begM l s o).2.2.1), lsS 2 2 16777215 ((begM l s o).2.1) ((begM l s o).2.2.1), false) : PS)).2.2.2) || cz (lsO 1 1 1 (lsR 2 2 16777215 ((begM l s o).2.1) ((begM l s o).2.2.1)) (lsS 2 2 16777215 ((begM l s o).2.1) ((begM l s o).2.2.1) || (mn u16M ((lsO 2 2 16777215 ((begM l s o).2.1) ((begM l s o).2.2.1), lsS 2 2 16777215 ((begM l s o).2.1) ((begM l s o).2.2.1), false) : PS)).2.2.1)))).2.1)) tc118, .bool ((extsM (lsR 1 1 1 (lsR 2 2 16777215 ((begM l s o).2.1) ((begM l s o).2.2.1)) (lsS 2 2 16777215 ((begM l s o).2.1) ((begM l s o).2.2.1) || (mn u16M ((lsO 2 2 16777215 ((begM l s o).2.1) ((begM l s o).2.2.1), lsS 2 2 16777215 ((begM l s o).2.1) ((begM l s o).2.2.1), false) : PS)).2.2.1)) (lsS 1 1 1 (lsR 2 2 16777215 ((begM l s o).2.1) ((begM l s o).2.2.1)) (lsS 2 2 16777215 ((begM l s o).2.1) ((begM l s o).2.2.1) || (mn u16M ((lsO 2 2 16777215 ((begM l s o).2.1) ((begM l s o).2.2.1), lsS 2 2 16777215 ((begM l s o).2.1) ((begM l s o).2.2.1), false) : PS)).2.2.1)) ((((begM l s o).2.2.2) || (mn u16M ((lsO 2 2 16777215 ((begM l s o).2.1) ((begM l s o).2.2.1), lsS 2 2 16777215 ((begM l s o).2.1) ((begM l s o).2.2.1), false) : PS)).2.2.2) || cz (lsO 1 1 1 (lsR 2 2 16777215 ((begM l s o).2.1) ((begM l s o).2.2.1)) (lsS 2 2 16777215 ((begM l s o).2.1) ((begM l s o).2.2.1) || (mn u16M ((lsO 2 2 16777215 ((begM l s o).2.1) ((begM l s o).2.2.1), lsS 2 2 16777215 ((begM l s o).2.1) ((begM l s o).2.2.1), false) : PS)).2.2.1)))).2.2.1), .bool ((extsM (lsR 1 1 1 (lsR 2 2 16777215 ((begM l s o).2.1) ((begM l s o).2.2.1)) (lsS 2 2 16777215 ((begM l s o).2.1) ((begM l s o).2.2.1) || (mn u16M ((lsO 2 2 16777215 ((begM l s o).2.1) ((begM l s o).2.2.1), lsS 2 2 16777215 ((begM l s o).2.1) ((begM l s o).2.2.1), false) : PS)).2.2.1)) (lsS 1 1 1 (lsR 2 2 16777215 ((begM l s o).2.1) ((begM l s o).2.2.1)) (lsS 2 2 16777215 ((begM l s o).2.1) ((begM l s o).2.2.1) || (mn u16M ((lsO 2 2 16777215 ((begM l s o).2.1) ((begM l s o).2.2.1), lsS 2 2 16777215 ((begM l s o).2.1) ((begM l s o).2.2.1), false) : PS)).2.2.1)) ((((begM l s o).2.2.2) || (mn u16M ((lsO 2 2 16777215 ((begM l s o).2.1) ((begM l s o).2.2.1), lsS 2 2 16777215 ((begM l s o).2.1) ((begM l s o).2.2.1), false) : PS)).2.2.2) || cz (lsO 1 1 1 (lsR 2 2 16777215 ((begM l s o).2.1) ((begM l s o).2.2.1)) (lsS 2 2 16777215 ((begM l s o).2.1) ((begM l s o).2.2.1) || (mn u16M ((lsO 2 2 16777215 ((begM l s o).2.1) ((begM l s o).2.2.1), lsS 2 2 16777215 ((begM l s o).2.1) ((begM l s o).2.2.1), false) : PS)).2.2.1)))).2.2.2)] 120, .vec oa121 oc122 2 (List.flatMap fExt xs123) 147, .grp (List.flatMap innExt xs123), .vec ao61 cp62 1 (bys (lsO 1 1 1 (lsR 2 2 16777215 ((begM l s o).2.1) ((begM l s o).2.2.1)) (lsS 2 2 16777215 ((begM l s o).2.1) ((begM l s o).2.2.1) || (mn u16M ((lsO 2 2 16777215 ((begM l s o).2.1) ((begM l s o).2.2.1), lsS 2 2 16777215 ((begM l s o).2.1) ((begM l s o).2.2.1), false) : PS)).2.2.1))) 5, .vec oa39 oc40 1 (List.flatMap fU16 xs41) 37, .vec oac14 occ15 1 (bys blc16) 5, .box bk1 (([.int .u16 0] : List Value) ++ ((bys (List.replicate 32 0)) ++ ([.slice none 0 0, .slice none 0 0, .slice none 0 0] : List Value))) 75, .box bk26 (([uv16 xva12] : List Value) ++ ((bys alb13) ++ ([.slice oac14 (List.length blc16) occ15, .slice oa39 (List.length xs41) oc40, .slice oa121 (List.length xs123) oc122] : List Value))) 75] En134 Hv132 rfl (seg_skip (n := 1) (j := 34) rfl (seg_skip (n := 32) (j := 2) (bys_lenh (by assumption)) rfl)) ((set_skip (n := 1) (j := 34) rfl).trans (congrArg (([uv16 xva12] : List Value) ++ ·) ((set_skip (n := 32) (j := 2) (bys_lenh (by assumption))).trans (congrArg ((bys alb13) ++ ·) rfl)))) rfl fun ac135 wo136 En137 Hv138 => ?_
  refine f_e ?_
  refine then_normal ?_
  refine wp_seq ?_
  refine region_from ?_
  refine d_k [0,2,3,4,32] [] 1 En137 fun ac139 En140 => ?_
  refine f_o ?_
  refine m_v 7 35 (.slice oa121 (List.length xs123) oc122) En140 Hv138 rfl (seg_skip (n := 1) (j := 34) rfl (seg_skip (n := 32) (j := 2) (bys_lenh (by assumption)) rfl)) fun ac141 En142 => ?_
  refine f_o ?_
  refine c_p En142 Hv138 (ixr_go _ 41 rfl oa121 oc122 xs123 (Hv138.heap.innS (k := 1) (f := fExt) (sz := 2) (by_ := 32) rfl (fun _ => rfl) (by decide) [] (by kernel_rfl) rfl (by first | omega | (simp; done) | (simp; omega)) (fun y hy => ⟨trivial, Hv138.heap.innB (k := 2) rfl (List.mem_flatMap.2 ⟨y, hy, List.mem_cons_self⟩) [] (by kernel_rfl) rfl (Nat.le_trans (hf125 y hy) (by decide)), trivial⟩))) fun ac147 wo144 En148 Hv149 => ?_
  refine d_e [0,2,3,4,5] [] En148 fun ac150 En151 => ?_
  refine then_normal ?_
  refine wp_seq ?_
  refine region_cut (F := fun ac wo => ∃ (b3 : Bool), Env ac 55 [(0, pt br), (2, pt bk1), (3, pt bk26), (4, .slice ao61 (List.length (lsO 1 1 1 (lsR 2 2 16777215 ((begM l s o).2.1) ((begM l s o).2.2.1)) (lsS 2 2 16777215 ((begM l s o).2.1) ((begM l s o).2.2.1) || (mn u16M ((lsO 2 2 16777215 ((begM l s o).2.1) ((begM l s o).2.2.1), lsS 2 2 16777215 ((begM l s o).2.1) ((begM l s o).2.2.1), false) : PS)).2.2.1))) cp62), (5, .int .i64 (fdI 41 (List.map (fun y : RExt => (y.1, y.2.1.l)) xs123)))] ∧ Ev w [.box br [.slice a (List.length l) c, .bool s, .bool o] 120] wo [.box br [.slice ta117 (List.length ((extsM (lsR 1 1 1 (lsR 2 2 16777215 ((begM l s o).2.1) ((begM l s o).2.2.1)) (lsS 2 2 16777215 ((begM l s o).2.1) ((begM l s o).2.2.1) || (mn u16M ((lsO 2 2 16777215 ((begM l s o).2.1) ((begM l s o).2.2.1), lsS 2 2 16777215 ((begM l s o).2.1) ((begM l s o).2.2.1), false) : PS)).2.2.1)) (lsS 1 1 1 (lsR 2 2 16777215 ((begM l s o).2.1) ((begM l s o).2.2.1)) (lsS 2 2 16777215 ((begM l s o).2.1) ((begM l s o).2.2.1) || (mn u16M ((lsO 2 2 16777215 ((begM l s o).2.1) ((begM l s o).2.2.1), lsS 2 2 16777215 ((begM l s o).2.1) ((begM l s o).2.2.1), false) : PS)).2.2.1)) ((((begM l s o).2.2.2) || (mn u16M ((lsO 2 2 16777215 ((begM l s o).2.1) ((begM l s o).2.2.1), lsS 2 2 16777215 ((begM l s o).2.1) ((begM l s o).2.2.1), false) : PS)).2.2.2) || cz (lsO 1 1 1 (lsR 2 2 16777215 ((begM l s o).2.1) ((begM l s o).2.2.1)) (lsS 2 2 16777215 ((begM l s o).2.1) ((begM l s o).2.2.1) || (mn u16M ((lsO 2 2 16777215 ((begM l s o).2.1) ((begM l s o).2.2.1), lsS 2 2 16777215 ((begM l s o).2.1) ((begM l s o).2.2.1), false) : PS)).2.2.1)))).2.1)) tc118, .bool ((extsM (lsR 1 1 1 (lsR 2 2 16777215 ((begM l s o).2.1) ((begM l s o).2.2.1)) (lsS 2 2 16777215 ((begM l s o).2.1) ((begM l s o).2.2.1) || (mn u16M ((lsO 2 2 16777215 ((begM l s o).2.1) ((begM l s o).2.2.1), lsS 2 2 16777215 ((begM l s o).2.1) ((begM l s o).2.2.1), false) : PS)).2.2.1)) (lsS 1 1 1 (lsR 2 2 16777215 ((begM l s o).2.1) ((begM l s o).2.2.1)) (lsS 2 2 16777215 ((begM l s o).2.1) ((begM l s o).2.2.1) || (mn u16M ((lsO 2 2 16777215 ((begM l s o).2.1) ((begM l s o).2.2.1), lsS 2 2 16777215 ((begM l s o).2.1) ((begM l s o).2.2.1), false) : PS)).2.2.1)) ((((begM l s o).2.2.2) || (mn u16M ((lsO 2 2 16777215 ((begM l s o).2.1) ((begM l s o).2.2.1), lsS 2 2 16777215 ((begM l s o).2.1) ((begM l s o).2.2.1), false) : PS)).2.2.2) || cz (lsO 1 1 1 (lsR 2 2 16777215 ((begM l s o).2.1) ((begM l s o).2.2.1)) (lsS 2 2 16777215 ((begM l s o).2.1) ((begM l s o).2.2.1) || (mn u16M ((lsO 2 2 16777215 ((begM l s o).2.1) ((begM l s o).2.2.1), lsS 2 2 16777215 ((begM l s o).2.1) ((begM l s o).2.2.1), false) : PS)).2.2.1)))).2.2.1), .bool b3] 120, .vec oa121 oc122 2 (List.flatMap fExt xs123) 147, .grp (List.flatMap innExt xs123), .vec ao61 cp62 1 (bys (lsO 1 1 1 (lsR 2 2 16777215 ((begM l s o).2.1) ((begM l s o).2.2.1)) (lsS 2 2 16777215 ((begM l s o).2.1) ((begM l s o).2.2.1) || (mn u16M ((lsO 2 2 16777215 ((begM l s o).2.1) ((begM l s o).2.2.1), lsS 2 2 16777215 ((begM l s o).2.1) ((begM l s o).2.2.1), false) : PS)).2.2.1))) 5, .vec oa39 oc40 1 (List.flatMap fU16 xs41) 37, .vec oac14 occ15 1 (bys blc16) 5, .box bk1 (([.int .u16 0] : List Value) ++ ((bys (List.replicate 32 0)) ++ ([.slice none 0 0, .slice none 0 0, .slice none 0 0] : List Value))) 75, .box bk26 (([uv16 xva12] : List Value) ++ ((bys alb13) ++ ([.slice oac14 (List.length blc16) occ15, .slice oa39 (List.length xs41) oc40, .slice oa121 (List.length xs123) oc122] : List Value))) 75] ∧ (b3 = (((extsM (lsR 1 1 1 (lsR 2 2 16777215 ((begM l s o).2.1) ((begM l s o).2.2.1)) (lsS 2 2 16777215 ((begM l s o).2.1) ((begM l s o).2.2.1) || (mn u16M ((lsO 2 2 16777215 ((begM l s o).2.1) ((begM l s o).2.2.1), lsS 2 2 16777215 ((begM l s o).2.1) ((begM l s o).2.2.1), false) : PS)).2.2.1)) (lsS 1 1 1 (lsR 2 2 16777215 ((begM l s o).2.1) ((begM l s o).2.2.1)) (lsS 2 2 16777215 ((begM l s o).2.1) ((begM l s o).2.2.1) || (mn u16M ((lsO 2 2 16777215 ((begM l s o).2.1) ((begM l s o).2.2.1), lsS 2 2 16777215 ((begM l s o).2.1) ((begM l s o).2.2.1), false) : PS)).2.2.1)) ((((begM l s o).2.2.2) || (mn u16M ((lsO 2 2 16777215 ((begM l s o).2.1) ((begM l s o).2.2.1), lsS 2 2 16777215 ((begM l s o).2.1) ((begM l s o).2.2.1), false) : PS)).2.2.2) || cz (lsO 1 1 1 (lsR 2 2 16777215 ((begM l s o).2.1) ((begM l s o).2.2.1)) (lsS 2 2 16777215 ((begM l s o).2.1) ((begM l s o).2.2.1) || (mn u16M ((lsO 2 2 16777215 ((begM l s o).2.1) ((begM l s o).2.2.1), lsS 2 2 16777215 ((begM l s o).2.1) ((begM l s o).2.2.1), false) : PS)).2.2.1)))).2.2.2) || lastQ (List.map (fun y : RExt => (y.1, y.2.1.l)) xs123)))) ?_ ?_
  ·
   refine region_from ?_
   refine d_k [0,2,3,4,5,35,38] [] 4 En151 fun ac152 En153 => ?_
   refine f_o ?_
   refine m_l 0 En153 Hv149 fun ac154 En155 => ?_
   refine d_k [0,2,3,4,5,35,40] [] 6 En155 fun ac156 En157 => ?_
   rcases Bool.eq_false_or_eq_true ((extsM (lsR 1 1 1 (lsR 2 2 16777215 ((begM l s o).2.1) ((begM l s o).2.2.1)) (lsS 2 2 16777215 ((begM l s o).2.1) ((begM l s o).2.2.1) || (mn u16M ((lsO 2 2 16777215 ((begM l s o).2.1) ((begM l s o).2.2.1), lsS 2 2 16777215 ((begM l s o).2.1) ((begM l s o).2.2.1), false) : PS)).2.2.1)) (lsS 1 1 1 (lsR 2 2 16777215 ((begM l s o).2.1) ((begM l s o).2.2.1)) (lsS 2 2 16777215 ((begM l s o).2.1) ((begM l s o).2.2.1) || (mn u16M ((lsO 2 2 16777215 ((begM l s o).2.1) ((begM l s o).2.2.1), lsS 2 2 16777215 ((begM l s o).2.1) ((begM l s o).2.2.1), false) : PS)).2.2.1)) ((((begM l s o).2.2.2) || (mn u16M ((lsO 2 2 16777215 ((begM l s o).2.1) ((begM l s o).2.2.1), lsS 2 2 16777215 ((begM l s o).2.1) ((begM l s o).2.2.1), false) : PS)).2.2.2) || cz (lsO 1 1 1 (lsR 2 2 16777215 ((begM l s o).2.1) ((begM l s o).2.2.1)) (lsS 2 2 16777215 ((begM l s o).2.1) ((begM l s o).2.2.1) || (mn u16M ((lsO 2 2 16777215 ((begM l s o).2.1) ((begM l s o).2.2.1), lsS 2 2 16777215 ((begM l s o).2.1) ((begM l s o).2.2.1), false) : PS)).2.2.1)))).2.2.2) with hb158 | hb158
   ·
    have En159 := En157.fx (t := 40) (congrArg Value.bool hb158)
    have hp160 : (extsM (lsR 1 1 1 (lsR 2 2 16777215 ((begM l s o).2.1) ((begM l s o).2.2.1)) (lsS 2 2 16777215 ((begM l s o).2.1) ((begM l s o).2.2.1) || (mn u16M ((lsO 2 2 16777215 ((begM l s o).2.1) ((begM l s o).2.2.1), lsS 2 2 16777215 ((begM l s o).2.1) ((begM l s o).2.2.1), false) : PS)).2.2.1)) (lsS 1 1 1 (lsR 2 2 16777215 ((begM l s o).2.1) ((begM l s o).2.2.1)) (lsS 2 2 16777215 ((begM l s o).2.1) ((begM l s o).2.2.1) || (mn u16M ((lsO 2 2 16777215 ((begM l s o).2.1) ((begM l s o).2.2.1), lsS 2 2 16777215 ((begM l s o).2.1) ((begM l s o).2.2.1), false) : PS)).2.2.1)) ((((begM l s o).2.2.2) || (mn u16M ((lsO 2 2 16777215 ((begM l s o).2.1) ((begM l s o).2.2.1), lsS 2 2 16777215 ((begM l s o).2.1) ((begM l s o).2.2.1), false) : PS)).2.2.2) || cz (lsO 1 1 1 (lsR 2 2 16777215 ((begM l s o).2.1) ((begM l s o).2.2.1)) (lsS 2 2 16777215 ((begM l s o).2.1) ((begM l s o).2.2.1) || (mn u16M ((lsO 2 2 16777215 ((begM l s o).2.1) ((begM l s o).2.2.1), lsS 2 2 16777215 ((begM l s o).2.1) ((begM l s o).2.2.1), false) : PS)).2.2.1)))).2.2.2 = true := hb158
    refine d_k [0,2,3,4,5,51,53] [] 19 En159 fun ac161 En162 => ?_
    refine f_o ?_
    refine m_s 0 [.box br [.slice ta117 (List.length ((extsM (lsR 1 1 1 (lsR 2 2 16777215 ((begM l s o).2.1) ((begM l s o).2.2.1)) (lsS 2 2 16777215 ((begM l s o).2.1) ((begM l s o).2.2.1) || (mn u16M ((lsO 2 2 16777215 ((begM l s o).2.1) ((begM l s o).2.2.1), lsS 2 2 16777215 ((begM l s o).2.1) ((begM l s o).2.2.1), false) : PS)).2.2.1)) (lsS 1 1 1 (lsR 2 2 16777215 ((begM l s o).2.1) ((begM l s o).2.2.1)) (lsS 2 2 16777215 ((begM l s o).2.1) ((begM l s o).2.2.1) || (mn u16M ((lsO 2 2 16777215 ((begM l s o).2.1) ((begM l s o).2.2.1), lsS 2 2 16777215 ((begM l s o).2.1) ((begM l s o).2.2.1), false) : PS)).2.2.1)) ((((begM l s o).2.2.2) || (mn u16M ((lsO 2 2 16777215 ((begM l s o).2.1) ((begM l s o).2.2.1), lsS 2 2 16777215 ((begM l s o).2.1) ((begM l s o).2.2.1), false) : PS)).2.2.2) || cz (lsO 1 1 1 (lsR 2 2 16777215 ((begM l s o).2.1) ((begM l s o).2.2.1)) (lsS 2 2 16777215 ((begM l s o).2.1) ((begM l s o).2.2.1) || (mn u16M ((lsO 2 2 16777215 ((begM l s o).2.1) ((begM l s o).2.2.1), lsS 2 2 16777215 ((begM l s o).2.1) ((begM l s o).2.2.1), false) : PS)).2.2.1)))).2.1)) tc118, .bool ((extsM (lsR 1 1 1 (lsR 2 2 16777215 ((begM l s o).2.1) ((begM l s o).2.2.1)) (lsS 2 2 16777215 ((begM l s o).2.1) ((begM l s o).2.2.1) || (mn u16M ((lsO 2 2 16777215 ((begM l s o).2.1) ((begM l s o).2.2.1), lsS 2 2 16777215 ((begM l s o).2.1) ((begM l s o).2.2.1), false) : PS)).2.2.1)) (lsS 1 1 1 (lsR 2 2 16777215 ((begM l s o).2.1) ((begM l s o).2.2.1)) (lsS 2 2 16777215 ((begM l s o).2.1) ((begM l s o).2.2.1) || (mn u16M ((lsO 2 2 16777215 ((begM l s o).2.1) ((begM l s o).2.2.1), lsS 2 2 16777215 ((begM l s o).2.1) ((begM l s o).2.2.1), false) : PS)).2.2.1)) ((((begM l s o).2.2.2) || (mn u16M ((lsO 2 2 16777215 ((begM l s o).2.1) ((begM l s o).2.2.1), lsS 2 2 16777215 ((begM l s o).2.1) ((begM l s o).2.2.1), false) : PS)).2.2.2) || cz (lsO 1 1 1 (lsR 2 2 16777215 ((begM l s o).2.1) ((begM l s o).2.2.1)) (lsS 2 2 16777215 ((begM l s o).2.1) ((begM l s o).2.2.1) || (mn u16M ((lsO 2 2 16777215 ((begM l s o).2.1) ((begM l s o).2.2.1), lsS 2 2 16777215 ((begM l s o).2.1) ((begM l s o).2.2.1), false) : PS)).2.2.1)))).2.2.1), .bool true] 120, .vec oa121 oc122 2 (List.flatMap fExt xs123) 147, .grp (List.flatMap innExt xs123), .vec ao61 cp62 1 (bys (lsO 1 1 1 (lsR 2 2 16777215 ((begM l s o).2.1) ((begM l s o).2.2.1)) (lsS 2 2 16777215 ((begM l s o).2.1) ((begM l s o).2.2.1) || (mn u16M ((lsO 2 2 16777215 ((begM l s o).2.1) ((begM l s o).2.2.1), lsS 2 2 16777215 ((begM l s o).2.1) ((begM l s o).2.2.1), false) : PS)).2.2.1))) 5, .vec oa39 oc40 1 (List.flatMap fU16 xs41) 37, .vec oac14 occ15 1 (bys blc16) 5, .box bk1 (([.int .u16 0] : List Value) ++ ((bys (List.replicate 32 0)) ++ ([.slice none 0 0, .slice none 0 0, .slice none 0 0] : List Value))) 75, .box bk26 (([uv16 xva12] : List Value) ++ ((bys alb13) ++ ([.slice oac14 (List.length blc16) occ15, .slice oa39 (List.length xs41) oc40, .slice oa121 (List.length xs123) oc122] : List Value))) 75] En162 Hv149 fun ac163 wo164 En165 Hv166 => ?_
    refine f_e ?_
    exact ⟨rfl, ⟨true, En165.sb, Hv166.pk [0, 1, 2, 3, 4, 5, 6, 7], (by first | exact lq_t (by assumption) | exact lq_n (by assumption) (by omega) | exact lq_f (by assumption) (by omega))⟩⟩
   ·
    have En167 := En157.fx (t := 40) (congrArg Value.bool hb158)
    have hp168 : ¬ ((extsM (lsR 1 1 1 (lsR 2 2 16777215 ((begM l s o).2.1) ((begM l s o).2.2.1)) (lsS 2 2 16777215 ((begM l s o).2.1) ((begM l s o).2.2.1) || (mn u16M ((lsO 2 2 16777215 ((begM l s o).2.1) ((begM l s o).2.2.1), lsS 2 2 16777215 ((begM l s o).2.1) ((begM l s o).2.2.1), false) : PS)).2.2.1)) (lsS 1 1 1 (lsR 2 2 16777215 ((begM l s o).2.1) ((begM l s o).2.2.1)) (lsS 2 2 16777215 ((begM l s o).2.1) ((begM l s o).2.2.1) || (mn u16M ((lsO 2 2 16777215 ((begM l s o).2.1) ((begM l s o).2.2.1), lsS 2 2 16777215 ((begM l s o).2.1) ((begM l s o).2.2.1), false) : PS)).2.2.1)) ((((begM l s o).2.2.2) || (mn u16M ((lsO 2 2 16777215 ((begM l s o).2.1) ((begM l s o).2.2.1), lsS 2 2 16777215 ((begM l s o).2.1) ((begM l s o).2.2.1), false) : PS)).2.2.2) || cz (lsO 1 1 1 (lsR 2 2 16777215 ((begM l s o).2.1) ((begM l s o).2.2.1)) (lsS 2 2 16777215 ((begM l s o).2.1) ((begM l s o).2.2.1) || (mn u16M ((lsO 2 2 16777215 ((begM l s o).2.1) ((begM l s o).2.2.1), lsS 2 2 16777215 ((begM l s o).2.1) ((begM l s o).2.2.1), false) : PS)).2.2.1)))).2.2.2 = true) := Bool.eq_false_iff.1 hb158
    refine d_k [0,2,3,4,5,35,40,43] [] 9 En167 fun ac169 En170 => ?_
    rcases Bool.eq_false_or_eq_true (decide (fdI 41 (List.map (fun y : RExt => (y.1, y.2.1.l)) xs123) ≥ (0 : Int))) with hb171 | hb171
    ·
     have En172 := En170.fx (t := 43) (congrArg Value.bool hb171)
     have hp173 : fdI 41 (List.map (fun y : RExt => (y.1, y.2.1.l)) xs123) ≥ (0 : Int) := of_decide_eq_true hb171
     refine d_k [0,2,3,4,5,35,40,43,44,45] [] 11 En172 fun ac174 En175 => ?_
     refine f_o ?_
     refine m_v 7 35 (.slice oa121 (List.length xs123) oc122) En175 Hv149 rfl (seg_skip (n := 1) (j := 34) rfl (seg_skip (n := 32) (j := 2) (bys_lenh (by assumption)) rfl)) fun ac176 En177 => ?_
     refine d_k [0,2,3,4,5,51,53] [(13, g_n (w_r (e := ((List.length xs123 : Nat) : Int) - (1 : Int)) (x := ((List.length xs123 : Nat) : Int) - (1 : Int)) (by omega)))] 19 En177 fun ac178 En179 => ?_
     refine f_o ?_
     refine m_s 0 [.box br [.slice ta117 (List.length ((extsM (lsR 1 1 1 (lsR 2 2 16777215 ((begM l s o).2.1) ((begM l s o).2.2.1)) (lsS 2 2 16777215 ((begM l s o).2.1) ((begM l s o).2.2.1) || (mn u16M ((lsO 2 2 16777215 ((begM l s o).2.1) ((begM l s o).2.2.1), lsS 2 2 16777215 ((begM l s o).2.1) ((begM l s o).2.2.1), false) : PS)).2.2.1)) (lsS 1 1 1 (lsR 2 2 16777215 ((begM l s o).2.1) ((begM l s o).2.2.1)) (lsS 2 2 16777215 ((begM l s o).2.1) ((begM l s o).2.2.1) || (mn u16M ((lsO 2 2 16777215 ((begM l s o).2.1) ((begM l s o).2.2.1), lsS 2 2 16777215 ((begM l s o).2.1) ((begM l s o).2.2.1), false) : PS)).2.2.1)) ((((begM l s o).2.2.2) || (mn u16M ((lsO 2 2 16777215 ((begM l s o).2.1) ((begM l s o).2.2.1), lsS 2 2 16777215 ((begM l s o).2.1) ((begM l s o).2.2.1), false) : PS)).2.2.2) || cz (lsO 1 1 1 (lsR 2 2 16777215 ((begM l s o).2.1) ((begM l s o).2.2.1)) (lsS 2 2 16777215 ((begM l s o).2.1) ((begM l s o).2.2.1) || (mn u16M ((lsO 2 2 16777215 ((begM l s o).2.1) ((begM l s o).2.2.1), lsS 2 2 16777215 ((begM l s o).2.1) ((begM l s o).2.2.1), false) : PS)).2.2.1)))).2.1)) tc118, .bool ((extsM (lsR 1 1 1 (lsR 2 2 16777215 ((begM l s o).2.1) ((begM l s o).2.2.1)) (lsS 2 2 16777215 ((begM l s o).2.1) ((begM l s o).2.2.1) || (mn u16M ((lsO 2 2 16777215 ((begM l s o).2.1) ((begM l s o).2.2.1), lsS 2 2 16777215 ((begM l s o).2.1) ((begM l s o).2.2.1), false) : PS)).2.2.1)) (lsS 1 1 1 (lsR 2 2 16777215 ((begM l s o).2.1) ((begM l s o).2.2.1)) (lsS 2 2 16777215 ((begM l s o).2.1) ((begM l s o).2.2.1) || (mn u16M ((lsO 2 2 16777215 ((begM l s o).2.1) ((begM l s o).2.2.1), lsS 2 2 16777215 ((begM l s o).2.1) ((begM l s o).2.2.1), false) : PS)).2.2.1)) ((((begM l s o).2.2.2) || (mn u16M ((lsO 2 2 16777215 ((begM l s o).2.1) ((begM l s o).2.2.1), lsS 2 2 16777215 ((begM l s o).2.1) ((begM l s o).2.2.1), false) : PS)).2.2.2) || cz (lsO 1 1 1 (lsR 2 2 16777215 ((begM l s o).2.1) ((begM l s o).2.2.1)) (lsS 2 2 16777215 ((begM l s o).2.1) ((begM l s o).2.2.1) || (mn u16M ((lsO 2 2 16777215 ((begM l s o).2.1) ((begM l s o).2.2.1), lsS 2 2 16777215 ((begM l s o).2.1) ((begM l s o).2.2.1), false) : PS)).2.2.1)))).2.2.1), .bool (decide (fdI 41 (List.map (fun y : RExt => (y.1, y.2.1.l)) xs123) < ((List.length xs123 : Nat) : Int) - (1 : Int)))] 120, .vec oa121 oc122 2 (List.flatMap fExt xs123) 147, .grp (List.flatMap innExt xs123), .vec ao61 cp62 1 (bys (lsO 1 1 1 (lsR 2 2 16777215 ((begM l s o).2.1) ((begM l s o).2.2.1)) (lsS 2 2 16777215 ((begM l s o).2.1) ((begM l s o).2.2.1) || (mn u16M ((lsO 2 2 16777215 ((begM l s o).2.1) ((begM l s o).2.2.1), lsS 2 2 16777215 ((begM l s o).2.1) ((begM l s o).2.2.1), false) : PS)).2.2.1))) 5, .vec oa39 oc40 1 (List.flatMap fU16 xs41) 37, .vec oac14 occ15 1 (bys blc16) 5, .box bk1 (([.int .u16 0] : List Value) ++ ((bys (List.replicate 32 0)) ++ ([.slice none 0 0, .slice none 0 0, .slice none 0 0] : List Value))) 75, .box bk26 (([uv16 xva12] : List Value) ++ ((bys alb13) ++ ([.slice oac14 (List.length blc16) occ15, .slice oa39 (List.length xs41) oc40, .slice oa121 (List.length xs123) oc122] : List Value))) 75] En179 Hv149 fun ac180 wo181 En182 Hv183 => ?_
     refine f_e ?_
     exact ⟨rfl, ⟨(decide (fdI 41 (List.map (fun y : RExt => (y.1, y.2.1.l)) xs123) < ((List.length xs123 : Nat) : Int) - (1 : Int))), En182.sb, Hv183.pk [0, 1, 2, 3, 4, 5, 6, 7], (by first | exact lq_t (by assumption) | exact lq_n (by assumption) (by omega) | exact lq_f (by assumption) (by omega))⟩⟩
    ·
     have En184 := En170.fx (t := 43) (congrArg Value.bool hb171)
     have hp185 : ¬ (fdI 41 (List.map (fun y : RExt => (y.1, y.2.1.l)) xs123) ≥ (0 : Int)) := of_decide_eq_false hb171
     refine d_k [0,2,3,4,5,51,53] [] 19 En184 fun ac186 En187 => ?_
     refine f_o ?_
     refine m_s 0 [.box br [.slice ta117 (List.length ((extsM (lsR 1 1 1 (lsR 2 2 16777215 ((begM l s o).2.1) ((begM l s o).2.2.1)) (lsS 2 2 16777215 ((begM l s o).2.1) ((begM l s o).2.2.1) || (mn u16M ((lsO 2 2 16777215 ((begM l s o).2.1) ((begM l s o).2.2.1), lsS 2 2 16777215 ((begM l s o).2.1) ((begM l s o).2.2.1), false) : PS)).2.2.1)) (lsS 1 1 1 (lsR 2 2 16777215 ((begM l s o).2.1) ((begM l s o).2.2.1)) (lsS 2 2 16777215 ((begM l s o).2.1) ((begM l s o).2.2.1) || (mn u16M ((lsO 2 2 16777215 ((begM l s o).2.1) ((begM l s o).2.2.1), lsS 2 2 16777215 ((begM l s o).2.1) ((begM l s o).2.2.1), false) : PS)).2.2.1)) ((((begM l s o).2.2.2) || (mn u16M ((lsO 2 2 16777215 ((begM l s o).2.1) ((begM l s o).2.2.1), lsS 2 2 16777215 ((begM l s o).2.1) ((begM l s o).2.2.1), false) : PS)).2.2.2) || cz (lsO 1 1 1 (lsR 2 2 16777215 ((begM l s o).2.1) ((begM l s o).2.2.1)) (lsS 2 2 16777215 ((begM l s o).2.1) ((begM l s o).2.2.1) || (mn u16M ((lsO 2 2 16777215 ((begM l s o).2.1) ((begM l s o).2.2.1), lsS 2 2 16777215 ((begM l s o).2.1) ((begM l s o).2.2.1), false) : PS)).2.2.1)))).2.1)) tc118, .bool ((extsM (lsR 1 1 1 (lsR 2 2 16777215 ((begM l s o).2.1) ((begM l s o).2.2.1)) (lsS 2 2 16777215 ((begM l s o).2.1) ((begM l s o).2.2.1) || (mn u16M ((lsO 2 2 16777215 ((begM l s o).2.1) ((begM l s o).2.2.1), lsS 2 2 16777215 ((begM l s o).2.1) ((begM l s o).2.2.1), false) : PS)).2.2.1)) (lsS 1 1 1 (lsR 2 2 16777215 ((begM l s o).2.1) ((begM l s o).2.2.1)) (lsS 2 2 16777215 ((begM l s o).2.1) ((begM l s o).2.2.1) || (mn u16M ((lsO 2 2 16777215 ((begM l s o).2.1) ((begM l s o).2.2.1), lsS 2 2 16777215 ((begM l s o).2.1) ((begM l s o).2.2.1), false) : PS)).2.2.1)) ((((begM l s o).2.2.2) || (mn u16M ((lsO 2 2 16777215 ((begM l s o).2.1) ((begM l s o).2.2.1), lsS 2 2 16777215 ((begM l s o).2.1) ((begM l s o).2.2.1), false) : PS)).2.2.2) || cz (lsO 1 1 1 (lsR 2 2 16777215 ((begM l s o).2.1) ((begM l s o).2.2.1)) (lsS 2 2 16777215 ((begM l s o).2.1) ((begM l s o).2.2.1) || (mn u16M ((lsO 2 2 16777215 ((begM l s o).2.1) ((begM l s o).2.2.1), lsS 2 2 16777215 ((begM l s o).2.1) ((begM l s o).2.2.1), false) : PS)).2.2.1)))).2.2.1), .bool false] 120, .vec oa121 oc122 2 (List.flatMap fExt xs123) 147, .grp (List.flatMap innExt xs123), .vec ao61 cp62 1 (bys (lsO 1 1 1 (lsR 2 2 16777215 ((begM l s o).2.1) ((begM l s o).2.2.1)) (lsS 2 2 16777215 ((begM l s o).2.1) ((begM l s o).2.2.1) || (mn u16M ((lsO 2 2 16777215 ((begM l s o).2.1) ((begM l s o).2.2.1), lsS 2 2 16777215 ((begM l s o).2.1) ((begM l s o).2.2.1), false) : PS)).2.2.1))) 5, .vec oa39 oc40 1 (List.flatMap fU16 xs41) 37, .vec oac14 occ15 1 (bys blc16) 5, .box bk1 (([.int .u16 0] : List Value) ++ ((bys (List.replicate 32 0)) ++ ([.slice none 0 0, .slice none 0 0, .slice none 0 0] : List Value))) 75, .box bk26 (([uv16 xva12] : List Value) ++ ((bys alb13) ++ ([.slice oac14 (List.length blc16) occ15, .slice oa39 (List.length xs41) oc40, .slice oa121 (List.length xs123) oc122] : List Value))) 75] En187 Hv149 fun ac188 wo189 En190 Hv191 => ?_
     refine f_e ?_
     exact ⟨rfl, ⟨false, En190.sb, Hv191.pk [0, 1, 2, 3, 4, 5, 6, 7], (by first | exact lq_t (by assumption) | exact lq_n (by assumption) (by omega) | exact lq_f (by assumption) (by omega))⟩⟩
  ·
   rintro ac192 wo193 ⟨b3, En194, Hv195, hb3⟩
   refine then_normal ?_
   refine wp_seq ?_
   subst hb3
   rw [hpu120] at Hv195
   refine region_from ?_
   refine f_o ?_
   refine m_a 7 0 36 (([uv16 xva12] : List Value) ++ ((bys alb13) ++ ([.slice oac14 (List.length blc16) occ15, .slice oa39 (List.length xs41) oc40, .slice oa121 (List.length xs123) oc122] : List Value))) En194 Hv195 rfl (load_whole (len_app rfl (len_app (bys_lenh (by assumption)) rfl))) (len_app rfl (len_app (bys_lenh (by assumption)) rfl)) fun ac196 En197 => ?_
   refine f_o ?_
   refine m_g 6 0 36 (([uv16 xva12] : List Value) ++ ((bys alb13) ++ ([.slice oac14 (List.length blc16) occ15, .slice oa39 (List.length xs41) oc40, .slice oa121 (List.length xs123) oc122] : List Value))) (([uv16 xva12] : List Value) ++ ((bys alb13) ++ ([.slice oac14 (List.length blc16) occ15, .slice oa39 (List.length xs41) oc40, .slice oa121 (List.length xs123) oc122] : List Value))) [.box br [.slice ta117 (List.length ((extsM (lsR 1 1 1 (lsR 2 2 16777215 ((begM l s o).2.1) ((begM l s o).2.2.1)) (lsS 2 2 16777215 ((begM l s o).2.1) ((begM l s o).2.2.1) || (mn u16M ((lsO 2 2 16777215 ((begM l s o).2.1) ((begM l s o).2.2.1), lsS 2 2 16777215 ((begM l s o).2.1) ((begM l s o).2.2.1), false) : PS)).2.2.1)) (lsS 1 1 1 (lsR 2 2 16777215 ((begM l s o).2.1) ((begM l s o).2.2.1)) (lsS 2 2 16777215 ((begM l s o).2.1) ((begM l s o).2.2.1) || (mn u16M ((lsO 2 2 16777215 ((begM l s o).2.1) ((begM l s o).2.2.1), lsS 2 2 16777215 ((begM l s o).2.1) ((begM l s o).2.2.1), false) : PS)).2.2.1)) ((((begM l s o).2.2.2) || (mn u16M ((lsO 2 2 16777215 ((begM l s o).2.1) ((begM l s o).2.2.1), lsS 2 2 16777215 ((begM l s o).2.1) ((begM l s o).2.2.1), false) : PS)).2.2.2) || cz (lsO 1 1 1 (lsR 2 2 16777215 ((begM l s o).2.1) ((begM l s o).2.2.1)) (lsS 2 2 16777215 ((begM l s o).2.1) ((begM l s o).2.2.1) || (mn u16M ((lsO 2 2 16777215 ((begM l s o).2.1) ((begM l s o).2.2.1), lsS 2 2 16777215 ((begM l s o).2.1) ((begM l s o).2.2.1), false) : PS)).2.2.1)))).2.1)) tc118, .bool ((extsM (lsR 1 1 1 (lsR 2 2 16777215 ((begM l s o).2.1) ((begM l s o).2.2.1)) (lsS 2 2 16777215 ((begM l s o).2.1) ((begM l s o).2.2.1) || (mn u16M ((lsO 2 2 16777215 ((begM l s o).2.1) ((begM l s o).2.2.1), lsS 2 2 16777215 ((begM l s o).2.1) ((begM l s o).2.2.1), false) : PS)).2.2.1)) (lsS 1 1 1 (lsR 2 2 16777215 ((begM l s o).2.1) ((begM l s o).2.2.1)) (lsS 2 2 16777215 ((begM l s o).2.1) ((begM l s o).2.2.1) || (mn u16M ((lsO 2 2 16777215 ((begM l s o).2.1) ((begM l s o).2.2.1), lsS 2 2 16777215 ((begM l s o).2.1) ((begM l s o).2.2.1), false) : PS)).2.2.1)) ((((begM l s o).2.2.2) || (mn u16M ((lsO 2 2 16777215 ((begM l s o).2.1) ((begM l s o).2.2.1), lsS 2 2 16777215 ((begM l s o).2.1) ((begM l s o).2.2.1), false) : PS)).2.2.2) || cz (lsO 1 1 1 (lsR 2 2 16777215 ((begM l s o).2.1) ((begM l s o).2.2.1)) (lsS 2 2 16777215 ((begM l s o).2.1) ((begM l s o).2.2.1) || (mn u16M ((lsO 2 2 16777215 ((begM l s o).2.1) ((begM l s o).2.2.1), lsS 2 2 16777215 ((begM l s o).2.1) ((begM l s o).2.2.1), false) : PS)).2.2.1)))).2.2.1), .bool (((extsM (lsR 1 1 1 (lsR 2 2 16777215 ((begM l s o).2.1) ((begM l s o).2.2.1)) (lsS 2 2 16777215 ((begM l s o).2.1) ((begM l s o).2.2.1) || (mn u16M ((lsO 2 2 16777215 ((begM l s o).2.1) ((begM l s o).2.2.1), lsS 2 2 16777215 ((begM l s o).2.1) ((begM l s o).2.2.1), false) : PS)).2.2.1)) (lsS 1 1 1 (lsR 2 2 16777215 ((begM l s o).2.1) ((begM l s o).2.2.1)) (lsS 2 2 16777215 ((begM l s o).2.1) ((begM l s o).2.2.1) || (mn u16M ((lsO 2 2 16777215 ((begM l s o).2.1) ((begM l s o).2.2.1), lsS 2 2 16777215 ((begM l s o).2.1) ((begM l s o).2.2.1), false) : PS)).2.2.1)) ((((begM l s o).2.2.2) || (mn u16M ((lsO 2 2 16777215 ((begM l s o).2.1) ((begM l s o).2.2.1), lsS 2 2 16777215 ((begM l s o).2.1) ((begM l s o).2.2.1), false) : PS)).2.2.2) || cz (lsO 1 1 1 (lsR 2 2 16777215 ((begM l s o).2.1) ((begM l s o).2.2.1)) (lsS 2 2 16777215 ((begM l s o).2.1) ((begM l s o).2.2.1) || (mn u16M ((lsO 2 2 16777215 ((begM l s o).2.1) ((begM l s o).2.2.1), lsS 2 2 16777215 ((begM l s o).2.1) ((begM l s o).2.2.1), false) : PS)).2.2.1)))).2.2.2) || lastQ (extsM (lsR 1 1 1 (lsR 2 2 16777215 ((begM l s o).2.1) ((begM l s o).2.2.1)) (lsS 2 2 16777215 ((begM l s o).2.1) ((begM l s o).2.2.1) || (mn u16M ((lsO 2 2 16777215 ((begM l s o).2.1) ((begM l s o).2.2.1), lsS 2 2 16777215 ((begM l s o).2.1) ((begM l s o).2.2.1), false) : PS)).2.2.1)) (lsS 1 1 1 (lsR 2 2 16777215 ((begM l s o).2.1) ((begM l s o).2.2.1)) (lsS 2 2 16777215 ((begM l s o).2.1) ((begM l s o).2.2.1) || (mn u16M ((lsO 2 2 16777215 ((begM l s o).2.1) ((begM l s o).2.2.1), lsS 2 2 16777215 ((begM l s o).2.1) ((begM l s o).2.2.1), false) : PS)).2.2.1)) ((((begM l s o).2.2.2) || (mn u16M ((lsO 2 2 16777215 ((begM l s o).2.1) ((begM l s o).2.2.1), lsS 2 2 16777215 ((begM l s o).2.1) ((begM l s o).2.2.1), false) : PS)).2.2.2) || cz (lsO 1 1 1 (lsR 2 2 16777215 ((begM l s o).2.1) ((begM l s o).2.2.1)) (lsS 2 2 16777215 ((begM l s o).2.1) ((begM l s o).2.2.1) || (mn u16M ((lsO 2 2 16777215 ((begM l s o).2.1) ((begM l s o).2.2.1), lsS 2 2 16777215 ((begM l s o).2.1) ((begM l s o).2.2.1), false) : PS)).2.2.1)))).1)] 120, .vec oa121 oc122 2 (List.flatMap fExt xs123) 147, .grp (List.flatMap innExt xs123), .vec ao61 cp62 1 (bys (lsO 1 1 1 (lsR 2 2 16777215 ((begM l s o).2.1) ((begM l s o).2.2.1)) (lsS 2 2 16777215 ((begM l s o).2.1) ((begM l s o).2.2.1) || (mn u16M ((lsO 2 2 16777215 ((begM l s o).2.1) ((begM l s o).2.2.1), lsS 2 2 16777215 ((begM l s o).2.1) ((begM l s o).2.2.1), false) : PS)).2.2.1))) 5, .vec oa39 oc40 1 (List.flatMap fU16 xs41) 37, .vec oac14 occ15 1 (bys blc16) 5, .box bk1 (([uv16 xva12] : List Value) ++ ((bys alb13) ++ ([.slice oac14 (List.length blc16) occ15, .slice oa39 (List.length xs41) oc40, .slice oa121 (List.length xs123) oc122] : List Value))) 75, .box bk26 (([uv16 xva12] : List Value) ++ ((bys alb13) ++ ([.slice oac14 (List.length blc16) occ15, .slice oa39 (List.length xs41) oc40, .slice oa121 (List.length xs123) oc122] : List Value))) 75] En197 Hv195 rfl (len_app rfl (len_app (bys_lenh (by assumption)) rfl)) (by rw [(len_app rfl (len_app (bys_lenh (List.length_replicate)) rfl))]; first | decide | (simp; done)) (one_app (one_all (by kernel_rfl)) (one_app (bys_one _) (one_all (by kernel_rfl)))) (store_whole (len_app rfl (len_app (bys_lenh (List.length_replicate)) rfl))) rfl fun ac198 wo199 En200 Hv201 => ?_
   refine f_e ?_
   refine then_normal ?_
   refine wp_ret ?_
   refine d_cell1 (v := .agg (List.toArray (([uv16 xva12] : List Value) ++ ((bys alb13) ++ ([.slice oac14 (List.length blc16) occ15, .slice oa39 (List.length xs41) oc40, .slice oa121 (List.length xs123) oc122] : List Value))))) (t := 2) (T := 75) (ad := ⟨bk1, 0, none⟩) En200 (by kernel_rfl) (by kernel_rfl) (Ev.cellAgg (t := 75) (k := 6) (off := 0) (m := 36) (xs := ([uv16 xva12] : List Value) ++ ((bys alb13) ++ ([.slice oac14 (List.length blc16) occ15, .slice oa39 (List.length xs41) oc40, .slice oa121 (List.length xs123) oc122] : List Value))) Hv201 rfl (load_whole (len_app rfl (len_app (bys_lenh (by assumption)) rfl))) (len_app rfl (len_app (bys_lenh (by assumption)) rfl)) (by kernel_rfl) (by kernel_rfl)) ?_
   exact ⟨ta117, tc118, xva12, alb13, oac14, occ15, blc16, oa39, oc40, xs41, oa121, oc122, xs123, rfl, Hv201.pk [0, 5, 4, 1, 2], (((hs10.trans hs42).trans hs65).trans hs119), (by rw [hmn43, hpu120]; show _ = ((begM l s o).1.1, (begM l s o).1.2.1, (begM l s o).1.2.2, _, _); rw [← hpu11]; rfl), hf17, hf18, (Nat.le_trans hct44 (lsO_32 (by decide) _ _)), hf124, hf125⟩

theorem got_client (w : World) (a : Option Addr) (c : Nat) (l : Bs) (i : InB w [] a c l) : Calls Try.prog 172 #[.slice a (List.length l) c, .func (.func 173) #[] #[]] w fun e w' => ∃ xva alb oac occ blc oad ocd xsd oae oce xse, e = .returned (.tuple #[.agg (List.toArray (([uv16 xva] : List Value) ++ ((bys alb) ++ ([.slice oac (List.length blc) occ, .slice oad (List.length xsd) ocd, .slice oae (List.length xse) oce] : List Value)))), .int .i64 (gotA (cliM l false false))]) ∧ Ev w [] w' [.vec oac occ 1 (bys blc) 5, .vec oad ocd 1 (List.flatMap fU16 xsd) 37, .vec oae oce 2 (List.flatMap fExt xse) 147, .grp (List.flatMap innExt xse)] ∧ (xva, alb, blc, List.map (fun y : RU16 => y) xsd, List.map (fun y : RExt => (y.1, y.2.1.l)) xse) = gotV (0, (List.replicate 32 0), [], [], []) (cliM l false false) ∧ List.length alb = 32 ∧ List.length blc ≤ 4294967296 ∧ List.length xsd ≤ 4294967296 ∧ List.length xse ≤ 4294967296 ∧ ∀ y ∈ xse, List.length y.2.1.l ≤ 140737488351232 := by
 refine d_0 [(0, .slice a (List.length l) c), (1, .func (.func 173) #[] #[])] 36 Go.Proofs.Try.func172 Go.Proofs.Try.ntmps172 (Heap.nil _) fun act0 En0 Hv0 => ?_
 refine wp_seq ?_
 refine region_from ?_
 refine f_o ?_
 refine m_z 75 (([.int .u16 0] : List Value) ++ ((bys (List.replicate 32 0)) ++ ([.slice none 0 0, .slice none 0 0, .slice none 0 0] : List Value))) En0 Hv0 fun ac2 wo3 bk1 En4 Hv5 => ?_
 refine d_e [0,1,4,5] [] En4 fun ac6 En7 => ?_
 refine then_normal ?_
 refine wp_seq ?_
 refine region_from ?_
 refine f_o ?_
 refine m_z 75 (([.int .u16 0] : List Value) ++ ((bys (List.replicate 32 0)) ++ ([.slice none 0 0, .slice none 0 0, .slice none 0 0] : List Value))) En7 Hv5 fun ac9 wo10 bk8 En11 Hv12 => ?_
 refine f_e ?_
 refine then_normal ?_
 refine wp_seq ?_
 refine region_from ?_
 refine d_k [1,4,5,6,10] [] 2 En11 fun ac13 En14 => ?_
 refine f_o ?_
 refine m_m 120 [.slice a (List.length l) c, .bool false, .bool false] En14 Hv12 fun ac16 wo17 bk15 En18 Hv19 => ?_
 refine d_e [1,4,5,6,7] [] En18 fun ac20 En21 => ?_
 refine then_normal ?_
 refine wp_seq ?_
 refine region_from ?_
 refine d_k [4,5,6,7,12,13] [] 2 En21 fun ac22 En23 => ?_
 refine f_o ?_
 refine c_l [2] (M := [.box bk15 [.slice a (List.length l) c, .bool false, .bool false] 120]) En23 Hv19 (fun hM44 => client_go _ bk15 a c l false false ((i.ev Hv19).pick [2] (by kernel_rfl)) hM44) ?_
 rintro _ wo45 ⟨ta24, tc25, xva28, alb29, oac30, occ31, blc32, oad33, ocd34, xsd35, oae36, oce37, xse38, rfl, he46, hs26, hpu27, hf39, hf40, hf41, hf42, hf43⟩
 refine ⟨_, _, [.box bk15 [.slice ta24 (List.length ((cliM l false false).2.1)) tc25, .bool ((cliM l false false).2.2.1), .bool ((cliM l false false).2.2.2)] 120, .vec oac30 occ31 1 (bys blc32) 5, .vec oad33 ocd34 1 (List.flatMap fU16 xsd35) 37, .vec oae36 oce37 2 (List.flatMap fExt xse38) 147, .grp (List.flatMap innExt xse38), .box bk1 (([.int .u16 0] : List Value) ++ ((bys (List.replicate 32 0)) ++ ([.slice none 0 0, .slice none 0 0, .slice none 0 0] : List Value))) 75, .box bk8 (([.int .u16 0] : List Value) ++ ((bys (List.replicate 32 0)) ++ ([.slice none 0 0, .slice none 0 0, .slice none 0 0] : List Value))) 75], rfl, he46, by kernel_rfl, fun ac48 En49 Hv50 => ?_⟩
 refine f_o ?_
 refine m_z 75 (([.int .u16 0] : List Value) ++ ((bys (List.replicate 32 0)) ++ ([.slice none 0 0, .slice none 0 0, .slice none 0 0] : List Value))) En49 Hv50 fun ac52 wo53 bk51 En54 Hv55 => ?_
 refine f_o ?_
 refine m_g 7 0 36 (([uv16 xva28] : List Value) ++ ((bys alb29) ++ ([.slice oac30 (List.length blc32) occ31, .slice oad33 (List.length xsd35) ocd34, .slice oae36 (List.length xse38) oce37] : List Value))) (([uv16 xva28] : List Value) ++ ((bys alb29) ++ ([.slice oac30 (List.length blc32) occ31, .slice oad33 (List.length xsd35) ocd34, .slice oae36 (List.length xse38) oce37] : List Value))) [.box bk15 [.slice ta24 (List.length ((cliM l false false).2.1)) tc25, .bool ((cliM l false false).2.2.1), .bool ((cliM l false false).2.2.2)] 120, .vec oac30 occ31 1 (bys blc32) 5, .vec oad33 ocd34 1 (List.flatMap fU16 xsd35) 37, .vec oae36 oce37 2 (List.flatMap fExt xse38) 147, .grp (List.flatMap innExt xse38), .box bk1 (([.int .u16 0] : List Value) ++ ((bys (List.replicate 32 0)) ++ ([.slice none 0 0, .slice none 0 0, .slice none 0 0] : List Value))) 75, .box bk8 (([.int .u16 0] : List Value) ++ ((bys (List.replicate 32 0)) ++ ([.slice none 0 0, .slice none 0 0, .slice none 0 0] : List Value))) 75, .box bk51 (([uv16 xva28] : List Value) ++ ((bys alb29) ++ ([.slice oac30 (List.length blc32) occ31, .slice oad33 (List.length xsd35) ocd34, .slice oae36 (List.length xse38) oce37] : List Value))) 75] En54 Hv55 rfl (len_app rfl (len_app (bys_lenh (by assumption)) rfl)) (by rw [(len_app rfl (len_app (bys_lenh (List.length_replicate)) rfl))]; first | decide | (simp; done)) (one_app (one_all (by kernel_rfl)) (one_app (bys_one _) (one_all (by kernel_rfl)))) (store_whole (len_app rfl (len_app (bys_lenh (List.length_replicate)) rfl))) rfl fun ac56 wo57 En58 Hv59 => ?_
 refine f_e ?_
 refine then_normal ?_
 refine wp_seq ?_
 refine wp_block ?_
 refine wp_seq ?_
 refine region_from ?_
 refine d_k [4,5,6,7,8,18] [] 3 En58 fun ac60 En61 => ?_
 refine f_o ?_
 refine m_l 0 En61 Hv59 fun ac62 En63 => ?_
 refine d_k [4,5,6,7,8,20] [] 5 En63 fun ac64 En65 => ?_
 rcases Bool.eq_false_or_eq_true ((cliM l false false).2.2.1) with hb66 | hb66
 ·
  have En67 := En65.fx (t := 20) (congrArg Value.bool hb66)
  have hp68 : (cliM l false false).2.2.1 = true := hb66
  refine d_e [4,5,6,7,8,15] [] En67 fun ac69 En70 => ?_
  refine then_normal ?_
  refine c_t En70 ?_
  refine wp_seq ?_
  refine region_from ?_
  refine f_o ?_
  refine m_a 6 0 36 (([.int .u16 0] : List Value) ++ ((bys (List.replicate 32 0)) ++ ([.slice none 0 0, .slice none 0 0, .slice none 0 0] : List Value))) En70 Hv59 rfl (load_whole (len_app rfl (len_app (bys_lenh (List.length_replicate)) rfl))) (len_app rfl (len_app (bys_lenh (List.length_replicate)) rfl)) fun ac71 En72 => ?_
  refine f_o ?_
  refine m_g 5 0 36 (([.int .u16 0] : List Value) ++ ((bys (List.replicate 32 0)) ++ ([.slice none 0 0, .slice none 0 0, .slice none 0 0] : List Value))) (([.int .u16 0] : List Value) ++ ((bys (List.replicate 32 0)) ++ ([.slice none 0 0, .slice none 0 0, .slice none 0 0] : List Value))) [.box bk15 [.slice ta24 (List.length ((cliM l false false).2.1)) tc25, .bool ((cliM l false false).2.2.1), .bool ((cliM l false false).2.2.2)] 120, .vec oac30 occ31 1 (bys blc32) 5, .vec oad33 ocd34 1 (List.flatMap fU16 xsd35) 37, .vec oae36 oce37 2 (List.flatMap fExt xse38) 147, .grp (List.flatMap innExt xse38), .box bk1 (([.int .u16 0] : List Value) ++ ((bys (List.replicate 32 0)) ++ ([.slice none 0 0, .slice none 0 0, .slice none 0 0] : List Value))) 75, .box bk8 (([.int .u16 0] : List Value) ++ ((bys (List.replicate 32 0)) ++ ([.slice none 0 0, .slice none 0 0, .slice none 0 0] : List Value))) 75, .box bk51 (([uv16 xva28] : List Value) ++ ((bys alb29) ++ ([.slice oac30 (List.length blc32) occ31, .slice oad33 (List.length xsd35) ocd34, .slice oae36 (List.length xse38) oce37] : List Value))) 75] En72 Hv59 rfl (len_app rfl (len_app (bys_lenh (List.length_replicate)) rfl)) (by rw [(len_app rfl (len_app (bys_lenh (List.length_replicate)) rfl))]; first | decide | (simp; done)) (one_app (one_all (by kernel_rfl)) (one_app (bys_one _) (one_all (by kernel_rfl)))) (store_whole (len_app rfl (len_app (bys_lenh (List.length_replicate)) rfl))) rfl fun ac73 wo74 En75 Hv76 => ?_
  refine d_e [4,5,6,7,8] [] En75 fun ac77 En78 => ?_
  refine then_normal ?_
  refine wp_ret ?_
  refine block_ret ?_
  refine then_ret ?_
  refine d_cell_tmp (v := .agg (List.toArray (([.int .u16 0] : List Value) ++ ((bys (List.replicate 32 0)) ++ ([.slice none 0 0, .slice none 0 0, .slice none 0 0] : List Value))))) (x := .int .i64 50) (t := 4) (T := 75) (ad := ⟨bk1, 0, none⟩) (u := 5) En78 (by kernel_rfl) (by kernel_rfl) (Ev.cellAgg (t := 75) (k := 5) (off := 0) (m := 36) (xs := ([.int .u16 0] : List Value) ++ ((bys (List.replicate 32 0)) ++ ([.slice none 0 0, .slice none 0 0, .slice none 0 0] : List Value))) Hv76 rfl (load_whole (len_app rfl (len_app (bys_lenh (List.length_replicate)) rfl))) (len_app rfl (len_app (bys_lenh (List.length_replicate)) rfl)) (by kernel_rfl) (by kernel_rfl)) (by kernel_rfl) ?_
  have eA : gotA (cliM l false false) = 50 := Eq.symm (by first | exact end_1 (by assumption) | exact end_2 (by omega) | exact end_3 (by assumption) (by omega) (by assumption))
  rw [gotV_n eA (by decide), eA]
  have Hv79 : Ev w [] wo74 [.box bk15 [.slice ta24 (List.length ((cliM l false false).2.1)) tc25, .bool ((cliM l false false).2.2.1), .bool ((cliM l false false).2.2.2)] 120, .vec oac30 occ31 1 (bys blc32) 5, .vec oad33 ocd34 1 (List.flatMap fU16 xsd35) 37, .vec oae36 oce37 2 (List.flatMap fExt xse38) 147, .grp (List.flatMap innExt xse38), .box bk1 (([.int .u16 0] : List Value) ++ ((bys (List.replicate 32 0)) ++ ([.slice none 0 0, .slice none 0 0, .slice none 0 0] : List Value))) 75, .box bk8 (([.int .u16 0] : List Value) ++ ((bys (List.replicate 32 0)) ++ ([.slice none 0 0, .slice none 0 0, .slice none 0 0] : List Value))) 75, .box bk51 (([uv16 xva28] : List Value) ++ ((bys alb29) ++ ([.slice oac30 (List.length blc32) occ31, .slice oad33 (List.length xsd35) ocd34, .slice oae36 (List.length xse38) oce37] : List Value))) 75, .vec none 0 1 (bys []) 5] := Ev.nil (sz := 1) (T := 5) Hv76
  have Hv80 : Ev w [] wo74 [.box bk15 [.slice ta24 (List.length ((cliM l false false).2.1)) tc25, .bool ((cliM l false false).2.2.1), .bool ((cliM l false false).2.2.2)] 120, .vec oac30 occ31 1 (bys blc32) 5, .vec oad33 ocd34 1 (List.flatMap fU16 xsd35) 37, .vec oae36 oce37 2 (List.flatMap fExt xse38) 147, .grp (List.flatMap innExt xse38), .box bk1 (([.int .u16 0] : List Value) ++ ((bys (List.replicate 32 0)) ++ ([.slice none 0 0, .slice none 0 0, .slice none 0 0] : List Value))) 75, .box bk8 (([.int .u16 0] : List Value) ++ ((bys (List.replicate 32 0)) ++ ([.slice none 0 0, .slice none 0 0, .slice none 0 0] : List Value))) 75, .box bk51 (([uv16 xva28] : List Value) ++ ((bys alb29) ++ ([.slice oac30 (List.length blc32) occ31, .slice oad33 (List.length xsd35) ocd34, .slice oae36 (List.length xse38) oce37] : List Value))) 75, .vec none 0 1 (bys []) 5, .vec none 0 1 (List.flatMap fU16 []) 37] := Ev.nil (sz := 1) (T := 37) Hv79
  have Hv81 : Ev w [] wo74 [.box bk15 [.slice ta24 (List.length ((cliM l false false).2.1)) tc25, .bool ((cliM l false false).2.2.1), .bool ((cliM l false false).2.2.2)] 120, .vec oac30 occ31 1 (bys blc32) 5, .vec oad33 ocd34 1 (List.flatMap fU16 xsd35) 37, .vec oae36 oce37 2 (List.flatMap fExt xse38) 147, .grp (List.flatMap innExt xse38), .box bk1 (([.int .u16 0] : List Value) ++ ((bys (List.replicate 32 0)) ++ ([.slice none 0 0, .slice none 0 0, .slice none 0 0] : List Value))) 75, .box bk8 (([.int .u16 0] : List Value) ++ ((bys (List.replicate 32 0)) ++ ([.slice none 0 0, .slice none 0 0, .slice none 0 0] : List Value))) 75, .box bk51 (([uv16 xva28] : List Value) ++ ((bys alb29) ++ ([.slice oac30 (List.length blc32) occ31, .slice oad33 (List.length xsd35) ocd34, .slice oae36 (List.length xse38) oce37] : List Value))) 75, .vec none 0 1 (bys []) 5, .vec none 0 1 (List.flatMap fU16 []) 37, .vec none 0 2 (List.flatMap fExt []) 147] := Ev.nil (sz := 2) (T := 147) Hv80
  have Hv82 : Ev w [] wo74 [.box bk15 [.slice ta24 (List.length ((cliM l false false).2.1)) tc25, .bool ((cliM l false false).2.2.1), .bool ((cliM l false false).2.2.2)] 120, .vec oac30 occ31 1 (bys blc32) 5, .vec oad33 ocd34 1 (List.flatMap fU16 xsd35) 37, .vec oae36 oce37 2 (List.flatMap fExt xse38) 147, .grp (List.flatMap innExt xse38), .box bk1 (([.int .u16 0] : List Value) ++ ((bys (List.replicate 32 0)) ++ ([.slice none 0 0, .slice none 0 0, .slice none 0 0] : List Value))) 75, .box bk8 (([.int .u16 0] : List Value) ++ ((bys (List.replicate 32 0)) ++ ([.slice none 0 0, .slice none 0 0, .slice none 0 0] : List Value))) 75, .box bk51 (([uv16 xva28] : List Value) ++ ((bys alb29) ++ ([.slice oac30 (List.length blc32) occ31, .slice oad33 (List.length xsd35) ocd34, .slice oae36 (List.length xse38) oce37] : List Value))) 75, .vec none 0 1 (bys []) 5, .vec none 0 1 (List.flatMap fU16 []) 37, .vec none 0 2 (List.flatMap fExt []) 147, .grp (List.flatMap innExt [])] := Ev.grp0 Hv81
  exact ⟨0, (List.replicate 32 0), none, 0, [], none, 0, [], none, 0, [], rfl, Hv82.pk [8, 9, 10, 11], rfl, List.length_replicate, (Nat.zero_le _), (Nat.zero_le _), (Nat.zero_le _), (fun y hy => by cases hy)⟩
 ·
  have En83 := En65.fx (t := 20) (congrArg Value.bool hb66)
  have hp84 : ¬ ((cliM l false false).2.2.1 = true) := Bool.eq_false_iff.1 hb66
  refine d_k [4,5,6,7,8,20,23] [] 8 En83 fun ac85 En86 => ?_
  refine f_o ?_
  refine m_l 0 En86 Hv59 fun ac87 En88 => ?_
  refine d_e [4,5,6,7,8,15] [] En88 fun ac89 En90 => ?_
  refine then_normal ?_
  refine c_d (((List.length ((cliM l false false).2.1) : Nat) : Int) > (0 : Int)) En90 (fun hc91 => ?_) (fun hc91 => ?_)
  ·
   refine wp_seq ?_
   refine region_from ?_
   refine f_o ?_
   refine m_a 6 0 36 (([.int .u16 0] : List Value) ++ ((bys (List.replicate 32 0)) ++ ([.slice none 0 0, .slice none 0 0, .slice none 0 0] : List Value))) En90 Hv59 rfl (load_whole (len_app rfl (len_app (bys_lenh (List.length_replicate)) rfl))) (len_app rfl (len_app (bys_lenh (List.length_replicate)) rfl)) fun ac92 En93 => ?_
   refine f_o ?_
   refine m_g 5 0 36 (([.int .u16 0] : List Value) ++ ((bys (List.replicate 32 0)) ++ ([.slice none 0 0, .slice none 0 0, .slice none 0 0] : List Value))) (([.int .u16 0] : List Value) ++ ((bys (List.replicate 32 0)) ++ ([.slice none 0 0, .slice none 0 0, .slice none 0 0] : List Value))) [.box bk15 [.slice ta24 (List.length ((cliM l false false).2.1)) tc25, .bool ((cliM l false false).2.2.1), .bool ((cliM l false false).2.2.2)] 120, .vec oac30 occ31 1 (bys blc32) 5, .vec oad33 ocd34 1 (List.flatMap fU16 xsd35) 37, .vec oae36 oce37 2 (List.flatMap fExt xse38) 147, .grp (List.flatMap innExt xse38), .box bk1 (([.int .u16 0] : List Value) ++ ((bys (List.replicate 32 0)) ++ ([.slice none 0 0, .slice none 0 0, .slice none 0 0] : List Value))) 75, .box bk8 (([.int .u16 0] : List Value) ++ ((bys (List.replicate 32 0)) ++ ([.slice none 0 0, .slice none 0 0, .slice none 0 0] : List Value))) 75, .box bk51 (([uv16 xva28] : List Value) ++ ((bys alb29) ++ ([.slice oac30 (List.length blc32) occ31, .slice oad33 (List.length xsd35) ocd34, .slice oae36 (List.length xse38) oce37] : List Value))) 75] En93 Hv59 rfl (len_app rfl (len_app (bys_lenh (List.length_replicate)) rfl)) (by rw [(len_app rfl (len_app (bys_lenh (List.length_replicate)) rfl))]; first | decide | (simp; done)) (one_app (one_all (by kernel_rfl)) (one_app (bys_one _) (one_all (by kernel_rfl)))) (store_whole (len_app rfl (len_app (bys_lenh (List.length_replicate)) rfl))) rfl fun ac94 wo95 En96 Hv97 => ?_
   refine d_e [4,5,6,7,8] [] En96 fun ac98 En99 => ?_
   refine then_normal ?_
   refine wp_ret ?_
   refine block_ret ?_
   refine then_ret ?_
   refine d_cell_tmp (v := .agg (List.toArray (([.int .u16 0] : List Value) ++ ((bys (List.replicate 32 0)) ++ ([.slice none 0 0, .slice none 0 0, .slice none 0 0] : List Value))))) (x := .int .i64 50) (t := 4) (T := 75) (ad := ⟨bk1, 0, none⟩) (u := 5) En99 (by kernel_rfl) (by kernel_rfl) (Ev.cellAgg (t := 75) (k := 5) (off := 0) (m := 36) (xs := ([.int .u16 0] : List Value) ++ ((bys (List.replicate 32 0)) ++ ([.slice none 0 0, .slice none 0 0, .slice none 0 0] : List Value))) Hv97 rfl (load_whole (len_app rfl (len_app (bys_lenh (List.length_replicate)) rfl))) (len_app rfl (len_app (bys_lenh (List.length_replicate)) rfl)) (by kernel_rfl) (by kernel_rfl)) (by kernel_rfl) ?_
   have eA : gotA (cliM l false false) = 50 := Eq.symm (by first | exact end_1 (by assumption) | exact end_2 (by omega) | exact end_3 (by assumption) (by omega) (by assumption))
   rw [gotV_n eA (by decide), eA]
   have Hv100 : Ev w [] wo95 [.box bk15 [.slice ta24 (List.length ((cliM l false false).2.1)) tc25, .bool ((cliM l false false).2.2.1), .bool ((cliM l false false).2.2.2)] 120, .vec oac30 occ31 1 (bys blc32) 5, .vec oad33 ocd34 1 (List.flatMap fU16 xsd35) 37, .vec oae36 oce37 2 (List.flatMap fExt xse38) 147, .grp (List.flatMap innExt xse38), .box bk1 (([.int .u16 0] : List Value) ++ ((bys (List.replicate 32 0)) ++ ([.slice none 0 0, .slice none 0 0, .slice none 0 0] : List Value))) 75, .box bk8 (([.int .u16 0] : List Value) ++ ((bys (List.replicate 32 0)) ++ ([.slice none 0 0, .slice none 0 0, .slice none 0 0] : List Value))) 75, .box bk51 (([uv16 xva28] : List Value) ++ ((bys alb29) ++ ([.slice oac30 (List.length blc32) occ31, .slice oad33 (List.length xsd35) ocd34, .slice oae36 (List.length xse38) oce37] : List Value))) 75, .vec none 0 1 (bys []) 5] := Ev.nil (sz := 1) (T := 5) Hv97
   have Hv101 : Ev w [] wo95 [.box bk15 [.slice ta24 (List.length ((cliM l false false).2.1)) tc25, .bool ((cliM l false false).2.2.1), .bool ((cliM l false false).2.2.2)] 120, .vec oac30 occ31 1 (bys blc32) 5, .vec oad33 ocd34 1 (List.flatMap fU16 xsd35) 37, .vec oae36 oce37 2 (List.flatMap fExt xse38) 147, .grp (List.flatMap innExt xse38), .box bk1 (([.int .u16 0] : List Value) ++ ((bys (List.replicate 32 0)) ++ ([.slice none 0 0, .slice none 0 0, .slice none 0 0] : List Value))) 75, .box bk8 (([.int .u16 0] : List Value) ++ ((bys (List.replicate 32 0)) ++ ([.slice none 0 0, .slice none 0 0, .slice none 0 0] : List Value))) 75, .box bk51 (([uv16 xva28] : List Value) ++ ((bys alb29) ++ ([.slice oac30 (List.length blc32) occ31, .slice oad33 (List.length xsd35) ocd34, .slice oae36 (List.length xse38) oce37] : List Value))) 75, .vec none 0 1 (bys []) 5, .vec none 0 1 (List.flatMap fU16 []) 37] := Ev.nil (sz := 1) (T := 37) Hv100
   have Hv102 : Ev w [] wo95 [.box bk15 [.slice ta24 (List.length ((cliM l false false).2.1)) tc25, .bool ((cliM l false false).2.2.1), .bool ((cliM l false false).2.2.2)] 120, .vec oac30 occ31 1 (bys blc32) 5, .vec oad33 ocd34 1 (List.flatMap fU16 xsd35) 37, .vec oae36 oce37 2 (List.flatMap fExt xse38) 147, .grp (List.flatMap innExt xse38), .box bk1 (([.int .u16 0] : List Value) ++ ((bys (List.replicate 32 0)) ++ ([.slice none 0 0, .slice none 0 0, .slice none 0 0] : List Value))) 75, .box bk8 (([.int .u16 0] : List Value) ++ ((bys (List.replicate 32 0)) ++ ([.slice none 0 0, .slice none 0 0, .slice none 0 0] : List Value))) 75, .box bk51 (([uv16 xva28] : List Value) ++ ((bys alb29) ++ ([.slice oac30 (List.length blc32) occ31, .slice oad33 (List.length xsd35) ocd34, .slice oae36 (List.length xse38) oce37] : List Value))) 75, .vec none 0 1 (bys []) 5, .vec none 0 1 (List.flatMap fU16 []) 37, .vec none 0 2 (List.flatMap fExt []) 147] := Ev.nil (sz := 2) (T := 147) Hv101
   have Hv103 : Ev w [] wo95 [.box bk15 [.slice ta24 (List.length ((cliM l false false).2.1)) tc25, .bool ((cliM l false false).2.2.1), .bool ((cliM l false false).2.2.2)] 120, .vec oac30 occ31 1 (bys blc32) 5, .vec oad33 ocd34 1 (List.flatMap fU16 xsd35) 37, .vec oae36 oce37 2 (List.flatMap fExt xse38) 147, .grp (List.flatMap innExt xse38), .box bk1 (([.int .u16 0] : List Value) ++ ((bys (List.replicate 32 0)) ++ ([.slice none 0 0, .slice none 0 0, .slice none 0 0] : List Value))) 75, .box bk8 (([.int .u16 0] : List Value) ++ ((bys (List.replicate 32 0)) ++ ([.slice none 0 0, .slice none 0 0, .slice none 0 0] : List Value))) 75, .box bk51 (([uv16 xva28] : List Value) ++ ((bys alb29) ++ ([.slice oac30 (List.length blc32) occ31, .slice oad33 (List.length xsd35) ocd34, .slice oae36 (List.length xse38) oce37] : List Value))) 75, .vec none 0 1 (bys []) 5, .vec none 0 1 (List.flatMap fU16 []) 37, .vec none 0 2 (List.flatMap fExt []) 147, .grp (List.flatMap innExt [])] := Ev.grp0 Hv102
   exact ⟨0, (List.replicate 32 0), none, 0, [], none, 0, [], none, 0, [], rfl, Hv103.pk [8, 9, 10, 11], rfl, List.length_replicate, (Nat.zero_le _), (Nat.zero_le _), (Nat.zero_le _), (fun y hy => by cases hy)⟩
  ·
   refine wp_seq ?_
   refine region_from ?_
   refine d_k [4,5,6,7,8,32] [] 3 En90 fun ac104 En105 => ?_
   refine f_o ?_
   refine m_l 0 En105 Hv59 fun ac106 En107 => ?_
   refine d_e [4,5,6,7,8,29] [] En107 fun ac108 En109 => ?_
   refine then_normal ?_
   refine cond_at En109 (t := (cliM l false false).2.2.2) (by kernel_rfl) (fun hc110 => ?_) (fun hc110 => ?_)
   ·
    replace hc110 : (cliM l false false).2.2.2 = true := hc110
    refine wp_seq ?_
    refine region_from ?_
    refine f_o ?_
    refine m_a 6 0 36 (([.int .u16 0] : List Value) ++ ((bys (List.replicate 32 0)) ++ ([.slice none 0 0, .slice none 0 0, .slice none 0 0] : List Value))) En109 Hv59 rfl (load_whole (len_app rfl (len_app (bys_lenh (List.length_replicate)) rfl))) (len_app rfl (len_app (bys_lenh (List.length_replicate)) rfl)) fun ac111 En112 => ?_
    refine f_o ?_
    refine m_g 5 0 36 (([.int .u16 0] : List Value) ++ ((bys (List.replicate 32 0)) ++ ([.slice none 0 0, .slice none 0 0, .slice none 0 0] : List Value))) (([.int .u16 0] : List Value) ++ ((bys (List.replicate 32 0)) ++ ([.slice none 0 0, .slice none 0 0, .slice none 0 0] : List Value))) [.box bk15 [.slice ta24 (List.length ((cliM l false false).2.1)) tc25, .bool ((cliM l false false).2.2.1), .bool ((cliM l false false).2.2.2)] 120, .vec oac30 occ31 1 (bys blc32) 5, .vec oad33 ocd34 1 (List.flatMap fU16 xsd35) 37, .vec oae36 oce37 2 (List.flatMap fExt xse38) 147, .grp (List.flatMap innExt xse38), .box bk1 (([.int .u16 0] : List Value) ++ ((bys (List.replicate 32 0)) ++ ([.slice none 0 0, .slice none 0 0, .slice none 0 0] : List Value))) 75, .box bk8 (([.int .u16 0] : List Value) ++ ((bys (List.replicate 32 0)) ++ ([.slice none 0 0, .slice none 0 0, .slice none 0 0] : List Value))) 75, .box bk51 (([uv16 xva28] : List Value) ++ ((bys alb29) ++ ([.slice oac30 (List.length blc32) occ31, .slice oad33 (List.length xsd35) ocd34, .slice oae36 (List.length xse38) oce37] : List Value))) 75] En112 Hv59 rfl (len_app rfl (len_app (bys_lenh (List.length_replicate)) rfl)) (by rw [(len_app rfl (len_app (bys_lenh (List.length_replicate)) rfl))]; first | decide | (simp; done)) (one_app (one_all (by kernel_rfl)) (one_app (bys_one _) (one_all (by kernel_rfl)))) (store_whole (len_app rfl (len_app (bys_lenh (List.length_replicate)) rfl))) rfl fun ac113 wo114 En115 Hv116 => ?_
    refine d_e [4,5,6,7,8] [] En115 fun ac117 En118 => ?_
    refine then_normal ?_
    refine wp_ret ?_
    refine block_ret ?_
    refine then_ret ?_
    refine d_cell_tmp (v := .agg (List.toArray (([.int .u16 0] : List Value) ++ ((bys (List.replicate 32 0)) ++ ([.slice none 0 0, .slice none 0 0, .slice none 0 0] : List Value))))) (x := .int .i64 47) (t := 4) (T := 75) (ad := ⟨bk1, 0, none⟩) (u := 5) En118 (by kernel_rfl) (by kernel_rfl) (Ev.cellAgg (t := 75) (k := 5) (off := 0) (m := 36) (xs := ([.int .u16 0] : List Value) ++ ((bys (List.replicate 32 0)) ++ ([.slice none 0 0, .slice none 0 0, .slice none 0 0] : List Value))) Hv116 rfl (load_whole (len_app rfl (len_app (bys_lenh (List.length_replicate)) rfl))) (len_app rfl (len_app (bys_lenh (List.length_replicate)) rfl)) (by kernel_rfl) (by kernel_rfl)) (by kernel_rfl) ?_
    have eA : gotA (cliM l false false) = 47 := Eq.symm (by first | exact end_1 (by assumption) | exact end_2 (by omega) | exact end_3 (by assumption) (by omega) (by assumption))
    rw [gotV_n eA (by decide), eA]
    have Hv119 : Ev w [] wo114 [.box bk15 [.slice ta24 (List.length ((cliM l false false).2.1)) tc25, .bool ((cliM l false false).2.2.1), .bool ((cliM l false false).2.2.2)] 120, .vec oac30 occ31 1 (bys blc32) 5, .vec oad33 ocd34 1 (List.flatMap fU16 xsd35) 37, .vec oae36 oce37 2 (List.flatMap fExt xse38) 147, .grp (List.flatMap innExt xse38), .box bk1 (([.int .u16 0] : List Value) ++ ((bys (List.replicate 32 0)) ++ ([.slice none 0 0, .slice none 0 0, .slice none 0 0] : List Value))) 75, .box bk8 (([.int .u16 0] : List Value) ++ ((bys (List.replicate 32 0)) ++ ([.slice none 0 0, .slice none 0 0, .slice none 0 0] : List Value))) 75, .box bk51 (([uv16 xva28] : List Value) ++ ((bys alb29) ++ ([.slice oac30 (List.length blc32) occ31, .slice oad33 (List.length xsd35) ocd34, .slice oae36 (List.length xse38) oce37] : List Value))) 75, .vec none 0 1 (bys []) 5] := Ev.nil (sz := 1) (T := 5) Hv116
    have Hv120 : Ev w [] wo114 [.box bk15 [.slice ta24 (List.length ((cliM l false false).2.1)) tc25, .bool ((cliM l false false).2.2.1), .bool ((cliM l false false).2.2.2)] 120, .vec oac30 occ31 1 (bys blc32) 5, .vec oad33 ocd34 1 (List.flatMap fU16 xsd35) 37, .vec oae36 oce37 2 (List.flatMap fExt xse38) 147, .grp (List.flatMap innExt xse38), .box bk1 (([.int .u16 0] : List Value) ++ ((bys (List.replicate 32 0)) ++ ([.slice none 0 0, .slice none 0 0, .slice none 0 0] : List Value))) 75, .box bk8 (([.int .u16 0] : List Value) ++ ((bys (List.replicate 32 0)) ++ ([.slice none 0 0, .slice none 0 0, .slice none 0 0] : List Value))) 75, .box bk51 (([uv16 xva28] : List Value) ++ ((bys alb29) ++ ([.slice oac30 (List.length blc32) occ31, .slice oad33 (List.length xsd35) ocd34, .slice oae36 (List.length xse38) oce37] : List Value))) 75, .vec none 0 1 (bys []) 5, .vec none 0 1 (List.flatMap fU16 []) 37] := Ev.nil (sz := 1) (T := 37) Hv119
    have Hv121 : Ev w [] wo114 [.box bk15 [.slice ta24 (List.length ((cliM l false false).2.1)) tc25, .bool ((cliM l false false).2.2.1), .bool ((cliM l false false).2.2.2)] 120, .vec oac30 occ31 1 (bys blc32) 5, .vec oad33 ocd34 1 (List.flatMap fU16 xsd35) 37, .vec oae36 oce37 2 (List.flatMap fExt xse38) 147, .grp (List.flatMap innExt xse38), .box bk1 (([.int .u16 0] : List Value) ++ ((bys (List.replicate 32 0)) ++ ([.slice none 0 0, .slice none 0 0, .slice none 0 0] : List Value))) 75, .box bk8 (([.int .u16 0] : List Value) ++ ((bys (List.replicate 32 0)) ++ ([.slice none 0 0, .slice none 0 0, .slice none 0 0] : List Value))) 75, .box bk51 (([uv16 xva28] : List Value) ++ ((bys alb29) ++ ([.slice oac30 (List.length blc32) occ31, .slice oad33 (List.length xsd35) ocd34, .slice oae36 (List.length xse38) oce37] : List Value))) 75, .vec none 0 1 (bys []) 5, .vec none 0 1 (List.flatMap fU16 []) 37, .vec none 0 2 (List.flatMap fExt []) 147] := Ev.nil (sz := 2) (T := 147) Hv120
    have Hv122 : Ev w [] wo114 [.box bk15 [.slice ta24 (List.length ((cliM l false false).2.1)) tc25, .bool ((cliM l false false).2.2.1), .bool ((cliM l false false).2.2.2)] 120, .vec oac30 occ31 1 (bys blc32) 5, .vec oad33 ocd34 1 (List.flatMap fU16 xsd35) 37, .vec oae36 oce37 2 (List.flatMap fExt xse38) 147, .grp (List.flatMap innExt xse38), .box bk1 (([.int .u16 0] : List Value) ++ ((bys (List.replicate 32 0)) ++ ([.slice none 0 0, .slice none 0 0, .slice none 0 0] : List Value))) 75, .box bk8 (([.int .u16 0] : List Value) ++ ((bys (List.replicate 32 0)) ++ ([.slice none 0 0, .slice none 0 0, .slice none 0 0] : List Value))) 75, .box bk51 (([uv16 xva28] : List Value) ++ ((bys alb29) ++ ([.slice oac30 (List.length blc32) occ31, .slice oad33 (List.length xsd35) ocd34, .slice oae36 (List.length xse38) oce37] : List Value))) 75, .vec none 0 1 (bys []) 5, .vec none 0 1 (List.flatMap fU16 []) 37, .vec none 0 2 (List.flatMap fExt []) 147, .grp (List.flatMap innExt [])] := Ev.grp0 Hv121
    exact ⟨0, (List.replicate 32 0), none, 0, [], none, 0, [], none, 0, [], rfl, Hv122.pk [8, 9, 10, 11], rfl, List.length_replicate, (Nat.zero_le _), (Nat.zero_le _), (Nat.zero_le _), (fun y hy => by cases hy)⟩
   ·
    replace hc110 : ¬ ((cliM l false false).2.2.2 = true) := Bool.eq_false_iff.1 hc110
    refine wp_skip ?_
    refine block_normal ?_
    refine then_normal ?_
    refine wp_seq ?_
    refine region_from ?_
    refine f_o ?_
    refine m_a 7 0 36 (([uv16 xva28] : List Value) ++ ((bys alb29) ++ ([.slice oac30 (List.length blc32) occ31, .slice oad33 (List.length xsd35) ocd34, .slice oae36 (List.length xse38) oce37] : List Value))) En109 Hv59 rfl (load_whole (len_app rfl (len_app (bys_lenh (by assumption)) rfl))) (len_app rfl (len_app (bys_lenh (by assumption)) rfl)) fun ac123 En124 => ?_
    refine f_o ?_
    refine m_g 5 0 36 (([uv16 xva28] : List Value) ++ ((bys alb29) ++ ([.slice oac30 (List.length blc32) occ31, .slice oad33 (List.length xsd35) ocd34, .slice oae36 (List.length xse38) oce37] : List Value))) (([uv16 xva28] : List Value) ++ ((bys alb29) ++ ([.slice oac30 (List.length blc32) occ31, .slice oad33 (List.length xsd35) ocd34, .slice oae36 (List.length xse38) oce37] : List Value))) [.box bk15 [.slice ta24 (List.length ((cliM l false false).2.1)) tc25, .bool ((cliM l false false).2.2.1), .bool ((cliM l false false).2.2.2)] 120, .vec oac30 occ31 1 (bys blc32) 5, .vec oad33 ocd34 1 (List.flatMap fU16 xsd35) 37, .vec oae36 oce37 2 (List.flatMap fExt xse38) 147, .grp (List.flatMap innExt xse38), .box bk1 (([uv16 xva28] : List Value) ++ ((bys alb29) ++ ([.slice oac30 (List.length blc32) occ31, .slice oad33 (List.length xsd35) ocd34, .slice oae36 (List.length xse38) oce37] : List Value))) 75, .box bk8 (([.int .u16 0] : List Value) ++ ((bys (List.replicate 32 0)) ++ ([.slice none 0 0, .slice none 0 0, .slice none 0 0] : List Value))) 75, .box bk51 (([uv16 xva28] : List Value) ++ ((bys alb29) ++ ([.slice oac30 (List.length blc32) occ31, .slice oad33 (List.length xsd35) ocd34, .slice oae36 (List.length xse38) oce37] : List Value))) 75] En124 Hv59 rfl (len_app rfl (len_app (bys_lenh (by assumption)) rfl)) (by rw [(len_app rfl (len_app (bys_lenh (List.length_replicate)) rfl))]; first | decide | (simp; done)) (one_app (one_all (by kernel_rfl)) (one_app (bys_one _) (one_all (by kernel_rfl)))) (store_whole (len_app rfl (len_app (bys_lenh (List.length_replicate)) rfl))) rfl fun ac125 wo126 En127 Hv128 => ?_
    refine d_e [4,5,6,7,8] [] En127 fun ac129 En130 => ?_
    refine then_normal ?_
    refine wp_ret ?_
    refine d_cell_tmp (v := .agg (List.toArray (([uv16 xva28] : List Value) ++ ((bys alb29) ++ ([.slice oac30 (List.length blc32) occ31, .slice oad33 (List.length xsd35) ocd34, .slice oae36 (List.length xse38) oce37] : List Value))))) (x := .int .i64 0) (t := 4) (T := 75) (ad := ⟨bk1, 0, none⟩) (u := 5) En130 (by kernel_rfl) (by kernel_rfl) (Ev.cellAgg (t := 75) (k := 5) (off := 0) (m := 36) (xs := ([uv16 xva28] : List Value) ++ ((bys alb29) ++ ([.slice oac30 (List.length blc32) occ31, .slice oad33 (List.length xsd35) ocd34, .slice oae36 (List.length xse38) oce37] : List Value))) Hv128 rfl (load_whole (len_app rfl (len_app (bys_lenh (by assumption)) rfl))) (len_app rfl (len_app (bys_lenh (by assumption)) rfl)) (by kernel_rfl) (by kernel_rfl)) (by kernel_rfl) ?_
    have eA : gotA (cliM l false false) = 0 := (end_4 (by assumption) (by omega) (by assumption)).symm
    rw [gotV_0 eA, eA]
    exact ⟨xva28, alb29, oac30, occ31, blc32, oad33, ocd34, xsd35, oae36, oce37, xse38, rfl, Hv128.pk [1, 2, 3, 4], hpu27, hf39, hf40, hf41, hf42, hf43⟩

theorem getclient_go (w : World) (aq : Option Addr) (nq cq : Nat) (lq : List UInt8) (eq : nq = List.length lq) (iq : InB w [] aq cq lq) : Calls Try.prog 67 #[.slice aq nq cq] w fun e w' => ∃ xva alb oac occ blc oad ocd xsd oae oce xse, e = .returned (.tuple #[.agg (List.toArray (([uv16 xva] : List Value) ++ ((bys alb) ++ ([.slice oac (List.length blc) occ, .slice oad (List.length xsd) ocd, .slice oae (List.length xse) oce] : List Value)))), .int .i64 (gotA (cliM lq false false))]) ∧ Ev w [] w' [.vec oac occ 1 (bys blc) 5, .vec oad ocd 1 (List.flatMap fU16 xsd) 37, .vec oae oce 2 (List.flatMap fExt xse) 147, .grp (List.flatMap innExt xse)] ∧ (xva, alb, blc, List.map (fun y : RU16 => y) xsd, List.map (fun y : RExt => (y.1, y.2.1.l)) xse) = gotV (0, (List.replicate 32 0), [], [], []) (cliM lq false false) ∧ List.length alb = 32 ∧ List.length blc ≤ 4294967296 ∧ List.length xsd ≤ 4294967296 ∧ List.length xse ≤ 4294967296 ∧ ∀ y ∈ xse, List.length y.2.1.l ≤ 140737488351232 := by
 subst eq
 refine d_0 [(0, .slice aq (List.length lq) cq)] 8 Go.Proofs.Try.func67 Go.Proofs.Try.ntmps67 (Heap.nil _) fun act0 En0 Hv0 => ?_
 refine wp_seq ?_
 refine region_from ?_
 refine f_o ?_
 refine m_z 75 (([.int .u16 0] : List Value) ++ ((bys (List.replicate 32 0)) ++ ([.slice none 0 0, .slice none 0 0, .slice none 0 0] : List Value))) En0 Hv0 fun ac2 wo3 bk1 En4 Hv5 => ?_
 refine d_e [0,2,3] [] En4 fun ac6 En7 => ?_
 refine then_normal ?_
 refine wp_seq ?_
 refine region_from ?_
 refine d_k [2,3,4] [] 1 En7 fun ac8 En9 => ?_
 refine f_o ?_
 refine c_0 En9 Hv5 (got_client _ aq cq lq ((iq.ev Hv5).pick [] (by kernel_rfl))) ?_
 rintro _ wo28 ⟨xva10, alb11, oac12, occ13, blc14, oad15, ocd16, xsd17, oae18, oce19, xse20, rfl, he29, hpu21, hf22, hf23, hf24, hf25, hf26⟩
 refine ⟨_, _, _, rfl, he29, rfl, fun ac31 En32 Hv33 => ?_⟩
 refine d_k [2,3,6,7] [] 4 En32 fun ac34 En35 => ?_
 refine f_o ?_
 refine m_g 4 0 36 (([uv16 xva10] : List Value) ++ ((bys alb11) ++ ([.slice oac12 (List.length blc14) occ13, .slice oad15 (List.length xsd17) ocd16, .slice oae18 (List.length xse20) oce19] : List Value))) (([uv16 xva10] : List Value) ++ ((bys alb11) ++ ([.slice oac12 (List.length blc14) occ13, .slice oad15 (List.length xsd17) ocd16, .slice oae18 (List.length xse20) oce19] : List Value))) [.vec oac12 occ13 1 (bys blc14) 5, .vec oad15 ocd16 1 (List.flatMap fU16 xsd17) 37, .vec oae18 oce19 2 (List.flatMap fExt xse20) 147, .grp (List.flatMap innExt xse20), .box bk1 (([uv16 xva10] : List Value) ++ ((bys alb11) ++ ([.slice oac12 (List.length blc14) occ13, .slice oad15 (List.length xsd17) ocd16, .slice oae18 (List.length xse20) oce19] : List Value))) 75] En35 Hv33 rfl (len_app rfl (len_app (bys_lenh (by assumption)) rfl)) (by rw [(len_app rfl (len_app (bys_lenh (List.length_replicate)) rfl))]; first | decide | (simp; done)) (one_app (one_all (by kernel_rfl)) (one_app (bys_one _) (one_all (by kernel_rfl)))) (store_whole (len_app rfl (len_app (bys_lenh (List.length_replicate)) rfl))) rfl fun ac36 wo37 En38 Hv39 => ?_
 refine d_e [2,3] [] En38 fun ac40 En41 => ?_
 refine then_normal ?_
 refine wp_ret ?_
 refine d_cell_tmp (v := .agg (List.toArray (([uv16 xva10] : List Value) ++ ((bys alb11) ++ ([.slice oac12 (List.length blc14) occ13, .slice oad15 (List.length xsd17) ocd16, .slice oae18 (List.length xse20) oce19] : List Value))))) (x := .int .i64 (gotA (cliM lq false false))) (t := 2) (T := 75) (ad := ⟨bk1, 0, none⟩) (u := 3) En41 (by kernel_rfl) (by kernel_rfl) (Ev.cellAgg (t := 75) (k := 4) (off := 0) (m := 36) (xs := ([uv16 xva10] : List Value) ++ ((bys alb11) ++ ([.slice oac12 (List.length blc14) occ13, .slice oad15 (List.length xsd17) ocd16, .slice oae18 (List.length xse20) oce19] : List Value))) Hv39 rfl (load_whole (len_app rfl (len_app (bys_lenh (by assumption)) rfl))) (len_app rfl (len_app (bys_lenh (by assumption)) rfl)) (by kernel_rfl) (by kernel_rfl)) (by kernel_rfl) ?_
 exact ⟨xva10, alb11, oac12, occ13, blc14, oad15, ocd16, xsd17, oae18, oce19, xse20, rfl, Hv39.pk [0, 1, 2, 3], hpu21, hf22, hf23, hf24, hf25, hf26⟩

def sz (n : Nat) : Bool := decide (n ≠ 0)
theorem sz_t {n : Nat} {O : Bool} (h : ¬ ((n : Nat) : Int) = 0) : true = (sz n || O) := by rw [sz, decide_eq_true (show n ≠ 0 by omega), Bool.true_or]
theorem sz_f {n : Nat} {O : Bool} (h : ((n : Nat) : Int) = 0) : O = (sz n || O) := by rw [sz, decide_eq_false (show ¬ n ≠ 0 by omega), Bool.false_or]
def s1M (l : Bs) (s o : Bool) : Bs × Bool := (tkR 2 (begM l s o).2.1 (begM l s o).2.2.1, tkS 2 (begM l s o).2.1 (begM l s o).2.2.1)
def sxM (l : Bs) (s o : Bool) : List EX × PS := extsM (tkR 1 (s1M l s o).1 (s1M l s o).2) (tkS 1 (s1M l s o).1 (s1M l s o).2) (sz (nbV 1 (s1M l s o).1 (s1M l s o).2) || (begM l s o).2.2.2)
def srvM (l : Bs) (s o : Bool) : HL × PS := (((begM l s o).1.1, (begM l s o).1.2.1, (begM l s o).1.2.2, [UInt16.ofNat (nbV 2 (begM l s o).2.1 (begM l s o).2.2.1)], (sxM l s o).1), (sxM l s o).2)

theorem server_go (w : World) (br : Nat) (a : Option Addr) (c : Nat) (l : List UInt8) (s o : Bool) (i : InB w [.box br [.slice a (List.length l) c, .bool s, .bool o] 120] a c l) (hH : Heap w [.box br [.slice a (List.length l) c, .bool s, .bool o] 120]) : Calls Try.prog 176 #[pt br] w fun e w' => ∃ ta tc xva alb oac occ blc oad ocd xsd oae oce xse, e = .returned (.agg (List.toArray (([uv16 xva] : List Value) ++ ((bys alb) ++ ([.slice oac (List.length blc) occ, .slice oad (List.length xsd) ocd, .slice oae (List.length xse) oce] : List Value))))) ∧ Ev w [.box br [.slice a (List.length l) c, .bool s, .bool o] 120] w' [.box br [.slice ta (List.length ((srvM l s o).2.1)) tc, .bool ((srvM l s o).2.2.1), .bool ((srvM l s o).2.2.2)] 120, .vec oac occ 1 (bys blc) 5, .vec oad ocd 1 (List.flatMap fU16 xsd) 37, .vec oae oce 2 (List.flatMap fExt xse) 147, .grp (List.flatMap innExt xse)] ∧ Sub a c l ta tc (srvM l s o).2.1 ∧ (xva, alb, blc, List.map (fun y : RU16 => y) xsd, List.map (fun y : RExt => (y.1, y.2.1.l)) xse) = (srvM l s o).1 ∧ List.length alb = 32 ∧ List.length blc ≤ 4294967296 ∧ List.length xsd ≤ 4294967296 ∧ List.length xse ≤ 4294967296 ∧ ∀ y ∈ xse, List.length y.2.1.l ≤ 140737488351232 := by
 refine d_0 [(0, pt br)] 26 Go.Proofs.Try.func176 Go.Proofs.Try.ntmps176 (hH) fun act0 En0 Hv0 => ?_
 refine wp_seq ?_
 refine region_from ?_
 refine f_o ?_
 refine m_z 75 (([.int .u16 0] : List Value) ++ ((bys (List.replicate 32 0)) ++ ([.slice none 0 0, .slice none 0 0, .slice none 0 0] : List Value))) En0 Hv0 fun ac2 wo3 bk1 En4 Hv5 => ?_
 refine f_e ?_
 refine then_normal ?_
 refine wp_seq ?_
 refine region_from ?_
 refine d_k [0,2,4] [] 1 En4 fun ac6 En7 => ?_
 refine f_o ?_
 refine c_l [0] (M := [.box br [.slice a (List.length l) c, .bool s, .bool o] 120]) En7 Hv5 (fun hM19 => begun_go _ br a c l s o ((i.ev Hv5).pick [0] (by kernel_rfl)) hM19) ?_
 rintro _ wo20 ⟨ta8, tc9, xva12, alb13, oac14, occ15, blc16, rfl, he21, hs10, hpu11, hf17, hf18⟩
 refine ⟨_, _, [.box br [.slice ta8 (List.length ((begM l s o).2.1)) tc9, .bool ((begM l s o).2.2.1), .bool ((begM l s o).2.2.2)] 120, .vec oac14 occ15 1 (bys blc16) 5, .box bk1 (([.int .u16 0] : List Value) ++ ((bys (List.replicate 32 0)) ++ ([.slice none 0 0, .slice none 0 0, .slice none 0 0] : List Value))) 75], rfl, he21, by kernel_rfl, fun ac23 En24 Hv25 => ?_⟩
 refine f_o ?_
 refine m_z 75 (([.int .u16 0] : List Value) ++ ((bys (List.replicate 32 0)) ++ ([.slice none 0 0, .slice none 0 0, .slice none 0 0] : List Value))) En24 Hv25 fun ac27 wo28 bk26 En29 Hv30 => ?_
 refine f_o ?_
 refine m_g 3 0 36 (([uv16 xva12] : List Value) ++ ((bys alb13) ++ ([.slice oac14 (List.length blc16) occ15, .slice none 0 0, .slice none 0 0] : List Value))) (([uv16 xva12] : List Value) ++ ((bys alb13) ++ ([.slice oac14 (List.length blc16) occ15, .slice none 0 0, .slice none 0 0] : List Value))) [.box br [.slice ta8 (List.length ((begM l s o).2.1)) tc9, .bool ((begM l s o).2.2.1), .bool ((begM l s o).2.2.2)] 120, .vec oac14 occ15 1 (bys blc16) 5, .box bk1 (([.int .u16 0] : List Value) ++ ((bys (List.replicate 32 0)) ++ ([.slice none 0 0, .slice none 0 0, .slice none 0 0] : List Value))) 75, .box bk26 (([uv16 xva12] : List Value) ++ ((bys alb13) ++ ([.slice oac14 (List.length blc16) occ15, .slice none 0 0, .slice none 0 0] : List Value))) 75] En29 Hv30 rfl (len_app rfl (len_app (bys_lenh (by assumption)) rfl)) (by rw [(len_app rfl (len_app (bys_lenh (List.length_replicate)) rfl))]; first | decide | (simp; done)) (one_app (one_all (by kernel_rfl)) (one_app (bys_one _) (one_all (by kernel_rfl)))) (store_whole (len_app rfl (len_app (bys_lenh (List.length_replicate)) rfl))) rfl fun ac31 wo32 En33 Hv34 => ?_
 refine f_e ?_
 refine then_normal ?_
 refine wp_seq ?_
 refine region_from ?_
 refine d_k [0,2,3,6] [] 1 En33 fun ac35 En36 => ?_
 refine f_o ?_
 refine c_l [0] (M := [.box br [.slice ta8 (List.length ((begM l s o).2.1)) tc9, .bool ((begM l s o).2.2.1), .bool ((begM l s o).2.2.2)] 120]) En36 Hv34 (fun hM40 => u16_go _ br ta8 tc9 ((begM l s o).2.1) ((begM l s o).2.2.1) ((begM l s o).2.2.2) (hs10 _ _ ((i.ev Hv34).pick [0] (by kernel_rfl))) hM40) ?_
 rintro _ wo41 ⟨ta37, tc38, rfl, he42, hs39⟩
 refine ⟨_, _, [.box br [.slice ta37 (List.length (tkR 2 ((begM l s o).2.1) ((begM l s o).2.2.1))) tc38, .bool (tkS 2 ((begM l s o).2.1) ((begM l s o).2.2.1)), .bool ((begM l s o).2.2.2)] 120, .vec oac14 occ15 1 (bys blc16) 5, .box bk1 (([.int .u16 0] : List Value) ++ ((bys (List.replicate 32 0)) ++ ([.slice none 0 0, .slice none 0 0, .slice none 0 0] : List Value))) 75, .box bk26 (([uv16 xva12] : List Value) ++ ((bys alb13) ++ ([.slice oac14 (List.length blc16) occ15, .slice none 0 0, .slice none 0 0] : List Value))) 75], rfl, he42, by kernel_rfl, fun ac44 En45 Hv46 => ?_⟩
 refine f_o ?_
 refine op_lit (d := some 8) (t := 32) (T := 37) (m := 1) (parts := #[(0, .int .u16 ((UInt16.toNat (UInt16.ofNat (nbV 2 ((begM l s o).2.1) ((begM l s o).2.2.1))) : Nat) : Int))]) (xs := List.flatMap fU16 ([UInt16.ofNat (nbV 2 ((begM l s o).2.1) ((begM l s o).2.2.1))] : List (RU16))) (sz := 1) En45 (by kernel_rfl) (by kernel_rfl) rfl (by decide) Hv46 ?_
 intro ac48 wo49 bk47 En50 Hv51
 refine d_k [0,2,3,8,9] [] 4 En50 fun ac52 En53 => ?_
 refine f_o ?_
 refine m_t 3 34 (.slice (some ⟨bk47, 0, none⟩) 1 1) [.box br [.slice ta37 (List.length (tkR 2 ((begM l s o).2.1) ((begM l s o).2.2.1))) tc38, .bool (tkS 2 ((begM l s o).2.1) ((begM l s o).2.2.1)), .bool ((begM l s o).2.2.2)] 120, .vec oac14 occ15 1 (bys blc16) 5, .box bk1 (([.int .u16 0] : List Value) ++ ((bys (List.replicate 32 0)) ++ ([.slice none 0 0, .slice none 0 0, .slice none 0 0] : List Value))) 75, .box bk26 (([uv16 xva12] : List Value) ++ ((bys alb13) ++ ([.slice oac14 (List.length blc16) occ15, .slice (some ⟨bk47, 0, none⟩) 1 1, .slice none 0 0] : List Value))) 75, .vec (some ⟨bk47, 0, none⟩) 1 1 (List.flatMap fU16 ([UInt16.ofNat (nbV 2 ((begM l s o).2.1) ((begM l s o).2.2.1))] : List (RU16))) 37] En53 Hv51 rfl (seg_skip (n := 1) (j := 33) rfl (seg_skip (n := 32) (j := 1) (bys_lenh (by assumption)) rfl)) ((set_skip (n := 1) (j := 33) rfl).trans (congrArg (([uv16 xva12] : List Value) ++ ·) ((set_skip (n := 32) (j := 1) (bys_lenh (by assumption))).trans (congrArg ((bys alb13) ++ ·) rfl)))) rfl fun ac54 wo55 En56 Hv57 => ?_
 refine f_e ?_
 refine then_normal ?_
 refine wp_seq ?_
 refine region_cut (F := fun ac wo => ∃ (ra9 : Option Addr) (rc9 : Nat) (b2 : Bool), Env ac 26 [(0, pt br), (2, pt bk1), (3, pt bk26)] ∧ Ev w [.box br [.slice a (List.length l) c, .bool s, .bool o] 120] wo [.box br [.slice ra9 (List.length (tkR 1 (tkR 2 ((begM l s o).2.1) ((begM l s o).2.2.1)) (tkS 2 ((begM l s o).2.1) ((begM l s o).2.2.1)))) rc9, .bool (tkS 1 (tkR 2 ((begM l s o).2.1) ((begM l s o).2.2.1)) (tkS 2 ((begM l s o).2.1) ((begM l s o).2.2.1))), .bool b2] 120, .vec oac14 occ15 1 (bys blc16) 5, .box bk1 (([.int .u16 0] : List Value) ++ ((bys (List.replicate 32 0)) ++ ([.slice none 0 0, .slice none 0 0, .slice none 0 0] : List Value))) 75, .box bk26 (([uv16 xva12] : List Value) ++ ((bys alb13) ++ ([.slice oac14 (List.length blc16) occ15, .slice (some ⟨bk47, 0, none⟩) 1 1, .slice none 0 0] : List Value))) 75, .vec (some ⟨bk47, 0, none⟩) 1 1 (List.flatMap fU16 ([UInt16.ofNat (nbV 2 ((begM l s o).2.1) ((begM l s o).2.2.1))] : List (RU16))) 37] ∧ (Sub ta37 tc38 (tkR 2 ((begM l s o).2.1) ((begM l s o).2.2.1)) ra9 rc9 (tkR 1 (tkR 2 ((begM l s o).2.1) ((begM l s o).2.2.1)) (tkS 2 ((begM l s o).2.1) ((begM l s o).2.2.1)))) ∧ (b2 = (sz (nbV 1 (tkR 2 ((begM l s o).2.1) ((begM l s o).2.2.1)) (tkS 2 ((begM l s o).2.1) ((begM l s o).2.2.1))) || ((begM l s o).2.2.2)))) ?_ ?_
 ·
  refine region_from ?_
  refine d_k [0,2,3,10,11] [] 2 En56 fun ac58 En59 => ?_
  refine f_o ?_
  refine c_l [0] (M := [.box br [.slice ta37 (List.length (tkR 2 ((begM l s o).2.1) ((begM l s o).2.2.1))) tc38, .bool (tkS 2 ((begM l s o).2.1) ((begM l s o).2.2.1)), .bool ((begM l s o).2.2.2)] 120]) En59 Hv57 (fun hM63 => number_go _ br 1 (by omega) ta37 tc38 (tkR 2 ((begM l s o).2.1) ((begM l s o).2.2.1)) (tkS 2 ((begM l s o).2.1) ((begM l s o).2.2.1)) ((begM l s o).2.2.2) (hs39 _ _ (hs10 _ _ ((i.ev Hv57).pick [0] (by kernel_rfl)))) hM63) ?_
  rintro _ wo64 ⟨ta60, tc61, rfl, he65, hs62⟩
  refine ⟨_, _, [.box br [.slice ta60 (List.length (tkR 1 (tkR 2 ((begM l s o).2.1) ((begM l s o).2.2.1)) (tkS 2 ((begM l s o).2.1) ((begM l s o).2.2.1)))) tc61, .bool (tkS 1 (tkR 2 ((begM l s o).2.1) ((begM l s o).2.2.1)) (tkS 2 ((begM l s o).2.1) ((begM l s o).2.2.1))), .bool ((begM l s o).2.2.2)] 120, .vec oac14 occ15 1 (bys blc16) 5, .box bk1 (([.int .u16 0] : List Value) ++ ((bys (List.replicate 32 0)) ++ ([.slice none 0 0, .slice none 0 0, .slice none 0 0] : List Value))) 75, .box bk26 (([uv16 xva12] : List Value) ++ ((bys alb13) ++ ([.slice oac14 (List.length blc16) occ15, .slice (some ⟨bk47, 0, none⟩) 1 1, .slice none 0 0] : List Value))) 75, .vec (some ⟨bk47, 0, none⟩) 1 1 (List.flatMap fU16 ([UInt16.ofNat (nbV 2 ((begM l s o).2.1) ((begM l s o).2.2.1))] : List (RU16))) 37], rfl, he65, by kernel_rfl, fun ac67 En68 Hv69 => ?_⟩
  refine d_k [0,2,3,10,14] [] 5 En68 fun ac70 En71 => ?_
  rcases Bool.eq_false_or_eq_true (((nbV 1 (tkR 2 ((begM l s o).2.1) ((begM l s o).2.2.1)) (tkS 2 ((begM l s o).2.1) ((begM l s o).2.2.1)) : Nat) : Int) != (0 : Int)) with hb72 | hb72
  ·
   have En73 := En71.fx (t := 14) (congrArg Value.bool hb72)
   have hp74 : ¬ (((nbV 1 (tkR 2 ((begM l s o).2.1) ((begM l s o).2.2.1)) (tkS 2 ((begM l s o).2.1) ((begM l s o).2.2.1)) : Nat) : Int) = (0 : Int)) := by simpa using hb72
   refine d_k [0,2,3,19,21] [] 12 En73 fun ac75 En76 => ?_
   refine f_o ?_
   refine m_s 0 [.box br [.slice ta60 (List.length (tkR 1 (tkR 2 ((begM l s o).2.1) ((begM l s o).2.2.1)) (tkS 2 ((begM l s o).2.1) ((begM l s o).2.2.1)))) tc61, .bool (tkS 1 (tkR 2 ((begM l s o).2.1) ((begM l s o).2.2.1)) (tkS 2 ((begM l s o).2.1) ((begM l s o).2.2.1))), .bool true] 120, .vec oac14 occ15 1 (bys blc16) 5, .box bk1 (([.int .u16 0] : List Value) ++ ((bys (List.replicate 32 0)) ++ ([.slice none 0 0, .slice none 0 0, .slice none 0 0] : List Value))) 75, .box bk26 (([uv16 xva12] : List Value) ++ ((bys alb13) ++ ([.slice oac14 (List.length blc16) occ15, .slice (some ⟨bk47, 0, none⟩) 1 1, .slice none 0 0] : List Value))) 75, .vec (some ⟨bk47, 0, none⟩) 1 1 (List.flatMap fU16 ([UInt16.ofNat (nbV 2 ((begM l s o).2.1) ((begM l s o).2.2.1))] : List (RU16))) 37] En76 Hv69 fun ac77 wo78 En79 Hv80 => ?_
   refine f_e ?_
   exact ⟨rfl, ⟨ta60, tc61, true, En79.sb, Hv80.pk [0, 1, 2, 3, 4], hs62, (by first | exact sz_t (by assumption) | exact sz_f (by omega))⟩⟩
  ·
   have En81 := En71.fx (t := 14) (congrArg Value.bool hb72)
   have hp82 : ((nbV 1 (tkR 2 ((begM l s o).2.1) ((begM l s o).2.2.1)) (tkS 2 ((begM l s o).2.1) ((begM l s o).2.2.1)) : Nat) : Int) = (0 : Int) := by simpa using hb72
   refine d_k [0,2,3,10,14,17] [] 8 En81 fun ac83 En84 => ?_
   refine f_o ?_
   refine m_l 0 En84 Hv69 fun ac85 En86 => ?_
   refine d_k [0,2,3,19,21] [] 12 En86 fun ac87 En88 => ?_
   refine f_o ?_
   refine m_s 0 [.box br [.slice ta60 (List.length (tkR 1 (tkR 2 ((begM l s o).2.1) ((begM l s o).2.2.1)) (tkS 2 ((begM l s o).2.1) ((begM l s o).2.2.1)))) tc61, .bool (tkS 1 (tkR 2 ((begM l s o).2.1) ((begM l s o).2.2.1)) (tkS 2 ((begM l s o).2.1) ((begM l s o).2.2.1))), .bool ((begM l s o).2.2.2)] 120, .vec oac14 occ15 1 (bys blc16) 5, .box bk1 (([.int .u16 0] : List Value) ++ ((bys (List.replicate 32 0)) ++ ([.slice none 0 0, .slice none 0 0, .slice none 0 0] : List Value))) 75, .box bk26 (([uv16 xva12] : List Value) ++ ((bys alb13) ++ ([.slice oac14 (List.length blc16) occ15, .slice (some ⟨bk47, 0, none⟩) 1 1, .slice none 0 0] : List Value))) 75, .vec (some ⟨bk47, 0, none⟩) 1 1 (List.flatMap fU16 ([UInt16.ofNat (nbV 2 ((begM l s o).2.1) ((begM l s o).2.2.1))] : List (RU16))) 37] En88 Hv69 fun ac89 wo90 En91 Hv92 => ?_
   refine f_e ?_
   exact ⟨rfl, ⟨ta60, tc61, ((begM l s o).2.2.2), En91.sb, Hv92.pk [0, 1, 2, 3, 4], hs62, (by first | exact sz_t (by assumption) | exact sz_f (by omega))⟩⟩
 ·
  rintro ac93 wo94 ⟨ra9, rc9, b2, En95, Hv96, hs9, hb2⟩
  refine then_normal ?_
  refine wp_seq ?_
  subst hb2
  refine region_from ?_
  refine d_k [0,2,3,22] [] 1 En95 fun ac97 En98 => ?_
  refine f_o ?_
  refine c_l [0] (M := [.box br [.slice ra9 (List.length (tkR 1 (tkR 2 ((begM l s o).2.1) ((begM l s o).2.2.1)) (tkS 2 ((begM l s o).2.1) ((begM l s o).2.2.1)))) rc9, .bool (tkS 1 (tkR 2 ((begM l s o).2.1) ((begM l s o).2.2.1)) (tkS 2 ((begM l s o).2.1) ((begM l s o).2.2.1))), .bool (sz (nbV 1 (tkR 2 ((begM l s o).2.1) ((begM l s o).2.2.1)) (tkS 2 ((begM l s o).2.1) ((begM l s o).2.2.1))) || ((begM l s o).2.2.2))] 120]) En98 Hv96 (fun hM108 => exts_go _ br ra9 rc9 (tkR 1 (tkR 2 ((begM l s o).2.1) ((begM l s o).2.2.1)) (tkS 2 ((begM l s o).2.1) ((begM l s o).2.2.1))) (tkS 1 (tkR 2 ((begM l s o).2.1) ((begM l s o).2.2.1)) (tkS 2 ((begM l s o).2.1) ((begM l s o).2.2.1))) (sz (nbV 1 (tkR 2 ((begM l s o).2.1) ((begM l s o).2.2.1)) (tkS 2 ((begM l s o).2.1) ((begM l s o).2.2.1))) || ((begM l s o).2.2.2)) (hs9 _ _ (hs39 _ _ (hs10 _ _ ((i.ev Hv96).pick [0] (by kernel_rfl))))) hM108) ?_
  rintro _ wo109 ⟨ta99, tc100, oa103, oc104, xs105, rfl, he110, hs101, hpu102, hf106, hf107⟩
  refine ⟨_, _, [.box br [.slice ta99 (List.length ((extsM (tkR 1 (tkR 2 ((begM l s o).2.1) ((begM l s o).2.2.1)) (tkS 2 ((begM l s o).2.1) ((begM l s o).2.2.1))) (tkS 1 (tkR 2 ((begM l s o).2.1) ((begM l s o).2.2.1)) (tkS 2 ((begM l s o).2.1) ((begM l s o).2.2.1))) (sz (nbV 1 (tkR 2 ((begM l s o).2.1) ((begM l s o).2.2.1)) (tkS 2 ((begM l s o).2.1) ((begM l s o).2.2.1))) || ((begM l s o).2.2.2))).2.1)) tc100, .bool ((extsM (tkR 1 (tkR 2 ((begM l s o).2.1) ((begM l s o).2.2.1)) (tkS 2 ((begM l s o).2.1) ((begM l s o).2.2.1))) (tkS 1 (tkR 2 ((begM l s o).2.1) ((begM l s o).2.2.1)) (tkS 2 ((begM l s o).2.1) ((begM l s o).2.2.1))) (sz (nbV 1 (tkR 2 ((begM l s o).2.1) ((begM l s o).2.2.1)) (tkS 2 ((begM l s o).2.1) ((begM l s o).2.2.1))) || ((begM l s o).2.2.2))).2.2.1), .bool ((extsM (tkR 1 (tkR 2 ((begM l s o).2.1) ((begM l s o).2.2.1)) (tkS 2 ((begM l s o).2.1) ((begM l s o).2.2.1))) (tkS 1 (tkR 2 ((begM l s o).2.1) ((begM l s o).2.2.1)) (tkS 2 ((begM l s o).2.1) ((begM l s o).2.2.1))) (sz (nbV 1 (tkR 2 ((begM l s o).2.1) ((begM l s o).2.2.1)) (tkS 2 ((begM l s o).2.1) ((begM l s o).2.2.1))) || ((begM l s o).2.2.2))).2.2.2)] 120, .vec oa103 oc104 2 (List.flatMap fExt xs105) 147, .grp (List.flatMap innExt xs105), .vec oac14 occ15 1 (bys blc16) 5, .box bk1 (([.int .u16 0] : List Value) ++ ((bys (List.replicate 32 0)) ++ ([.slice none 0 0, .slice none 0 0, .slice none 0 0] : List Value))) 75, .box bk26 (([uv16 xva12] : List Value) ++ ((bys alb13) ++ ([.slice oac14 (List.length blc16) occ15, .slice (some ⟨bk47, 0, none⟩) 1 1, .slice none 0 0] : List Value))) 75, .vec (some ⟨bk47, 0, none⟩) 1 1 (List.flatMap fU16 ([UInt16.ofNat (nbV 2 ((begM l s o).2.1) ((begM l s o).2.2.1))] : List (RU16))) 37], rfl, he110, by kernel_rfl, fun ac112 En113 Hv114 => ?_⟩
  refine d_k [0,2,3,23,24] [] 3 En113 fun ac115 En116 => ?_
  refine f_o ?_
  refine m_t 5 35 (.slice oa103 (List.length xs105) oc104) [.box br [.slice ta99 (List.length ((extsM (tkR 1 (tkR 2 ((begM l s o).2.1) ((begM l s o).2.2.1)) (tkS 2 ((begM l s o).2.1) ((begM l s o).2.2.1))) (tkS 1 (tkR 2 ((begM l s o).2.1) ((begM l s o).2.2.1)) (tkS 2 ((begM l s o).2.1) ((begM l s o).2.2.1))) (sz (nbV 1 (tkR 2 ((begM l s o).2.1) ((begM l s o).2.2.1)) (tkS 2 ((begM l s o).2.1) ((begM l s o).2.2.1))) || ((begM l s o).2.2.2))).2.1)) tc100, .bool ((extsM (tkR 1 (tkR 2 ((begM l s o).2.1) ((begM l s o).2.2.1)) (tkS 2 ((begM l s o).2.1) ((begM l s o).2.2.1))) (tkS 1 (tkR 2 ((begM l s o).2.1) ((begM l s o).2.2.1)) (tkS 2 ((begM l s o).2.1) ((begM l s o).2.2.1))) (sz (nbV 1 (tkR 2 ((begM l s o).2.1) ((begM l s o).2.2.1)) (tkS 2 ((begM l s o).2.1) ((begM l s o).2.2.1))) || ((begM l s o).2.2.2))).2.2.1), .bool ((extsM (tkR 1 (tkR 2 ((begM l s o).2.1) ((begM l s o).2.2.1)) (tkS 2 ((begM l s o).2.1) ((begM l s o).2.2.1))) (tkS 1 (tkR 2 ((begM l s o).2.1) ((begM l s o).2.2.1)) (tkS 2 ((begM l s o).2.1) ((begM l s o).2.2.1))) (sz (nbV 1 (tkR 2 ((begM l s o).2.1) ((begM l s o).2.2.1)) (tkS 2 ((begM l s o).2.1) ((begM l s o).2.2.1))) || ((begM l s o).2.2.2))).2.2.2)] 120, .vec oa103 oc104 2 (List.flatMap fExt xs105) 147, .grp (List.flatMap innExt xs105), .vec oac14 occ15 1 (bys blc16) 5, .box bk1 (([.int .u16 0] : List Value) ++ ((bys (List.replicate 32 0)) ++ ([.slice none 0 0, .slice none 0 0, .slice none 0 0] : List Value))) 75, .box bk26 (([uv16 xva12] : List Value) ++ ((bys alb13) ++ ([.slice oac14 (List.length blc16) occ15, .slice (some ⟨bk47, 0, none⟩) 1 1, .slice oa103 (List.length xs105) oc104] : List Value))) 75, .vec (some ⟨bk47, 0, none⟩) 1 1 (List.flatMap fU16 ([UInt16.ofNat (nbV 2 ((begM l s o).2.1) ((begM l s o).2.2.1))] : List (RU16))) 37] En116 Hv114 rfl (seg_skip (n := 1) (j := 34) rfl (seg_skip (n := 32) (j := 2) (bys_lenh (by assumption)) rfl)) ((set_skip (n := 1) (j := 34) rfl).trans (congrArg (([uv16 xva12] : List Value) ++ ·) ((set_skip (n := 32) (j := 2) (bys_lenh (by assumption))).trans (congrArg ((bys alb13) ++ ·) rfl)))) rfl fun ac117 wo118 En119 Hv120 => ?_
  refine f_e ?_
  refine then_normal ?_
  refine wp_seq ?_
  refine region_from ?_
  refine f_o ?_
  refine m_a 5 0 36 (([uv16 xva12] : List Value) ++ ((bys alb13) ++ ([.slice oac14 (List.length blc16) occ15, .slice (some ⟨bk47, 0, none⟩) 1 1, .slice oa103 (List.length xs105) oc104] : List Value))) En119 Hv120 rfl (load_whole (len_app rfl (len_app (bys_lenh (by assumption)) rfl))) (len_app rfl (len_app (bys_lenh (by assumption)) rfl)) fun ac121 En122 => ?_
  refine f_o ?_
  refine m_g 4 0 36 (([uv16 xva12] : List Value) ++ ((bys alb13) ++ ([.slice oac14 (List.length blc16) occ15, .slice (some ⟨bk47, 0, none⟩) 1 1, .slice oa103 (List.length xs105) oc104] : List Value))) (([uv16 xva12] : List Value) ++ ((bys alb13) ++ ([.slice oac14 (List.length blc16) occ15, .slice (some ⟨bk47, 0, none⟩) 1 1, .slice oa103 (List.length xs105) oc104] : List Value))) [.box br [.slice ta99 (List.length ((extsM (tkR 1 (tkR 2 ((begM l s o).2.1) ((begM l s o).2.2.1)) (tkS 2 ((begM l s o).2.1) ((begM l s o).2.2.1))) (tkS 1 (tkR 2 ((begM l s o).2.1) ((begM l s o).2.2.1)) (tkS 2 ((begM l s o).2.1) ((begM l s o).2.2.1))) (sz (nbV 1 (tkR 2 ((begM l s o).2.1) ((begM l s o).2.2.1)) (tkS 2 ((begM l s o).2.1) ((begM l s o).2.2.1))) || ((begM l s o).2.2.2))).2.1)) tc100, .bool ((extsM (tkR 1 (tkR 2 ((begM l s o).2.1) ((begM l s o).2.2.1)) (tkS 2 ((begM l s o).2.1) ((begM l s o).2.2.1))) (tkS 1 (tkR 2 ((begM l s o).2.1) ((begM l s o).2.2.1)) (tkS 2 ((begM l s o).2.1) ((begM l s o).2.2.1))) (sz (nbV 1 (tkR 2 ((begM l s o).2.1) ((begM l s o).2.2.1)) (tkS 2 ((begM l s o).2.1) ((begM l s o).2.2.1))) || ((begM l s o).2.2.2))).2.2.1), .bool ((extsM (tkR 1 (tkR 2 ((begM l s o).2.1) ((begM l s o).2.2.1)) (tkS 2 ((begM l s o).2.1) ((begM l s o).2.2.1))) (tkS 1 (tkR 2 ((begM l s o).2.1) ((begM l s o).2.2.1)) (tkS 2 ((begM l s o).2.1) ((begM l s o).2.2.1))) (sz (nbV 1 (tkR 2 ((begM l s o).2.1) ((begM l s o).2.2.1)) (tkS 2 ((begM l s o).2.1) ((begM l s o).2.2.1))) || ((begM l s o).2.2.2))).2.2.2)] 120, .vec oa103 oc104 2 (List.flatMap fExt xs105) 147, .grp (List.flatMap innExt xs105), .vec oac14 occ15 1 (bys blc16) 5, .box bk1 (([uv16 xva12] : List Value) ++ ((bys alb13) ++ ([.slice oac14 (List.length blc16) occ15, .slice (some ⟨bk47, 0, none⟩) 1 1, .slice oa103 (List.length xs105) oc104] : List Value))) 75, .box bk26 (([uv16 xva12] : List Value) ++ ((bys alb13) ++ ([.slice oac14 (List.length blc16) occ15, .slice (some ⟨bk47, 0, none⟩) 1 1, .slice oa103 (List.length xs105) oc104] : List Value))) 75, .vec (some ⟨bk47, 0, none⟩) 1 1 (List.flatMap fU16 ([UInt16.ofNat (nbV 2 ((begM l s o).2.1) ((begM l s o).2.2.1))] : List (RU16))) 37] En122 Hv120 rfl (len_app rfl (len_app (bys_lenh (by assumption)) rfl)) (by rw [(len_app rfl (len_app (bys_lenh (List.length_replicate)) rfl))]; first | decide | (simp; done)) (one_app (one_all (by kernel_rfl)) (one_app (bys_one _) (one_all (by kernel_rfl)))) (store_whole (len_app rfl (len_app (bys_lenh (List.length_replicate)) rfl))) rfl fun ac123 wo124 En125 Hv126 => ?_
  refine f_e ?_
  refine then_normal ?_
  refine wp_ret ?_
  refine d_cell1 (v := .agg (List.toArray (([uv16 xva12] : List Value) ++ ((bys alb13) ++ ([.slice oac14 (List.length blc16) occ15, .slice (some ⟨bk47, 0, none⟩) 1 1, .slice oa103 (List.length xs105) oc104] : List Value))))) (t := 2) (T := 75) (ad := ⟨bk1, 0, none⟩) En125 (by kernel_rfl) (by kernel_rfl) (Ev.cellAgg (t := 75) (k := 4) (off := 0) (m := 36) (xs := ([uv16 xva12] : List Value) ++ ((bys alb13) ++ ([.slice oac14 (List.length blc16) occ15, .slice (some ⟨bk47, 0, none⟩) 1 1, .slice oa103 (List.length xs105) oc104] : List Value))) Hv126 rfl (load_whole (len_app rfl (len_app (bys_lenh (by assumption)) rfl))) (len_app rfl (len_app (bys_lenh (by assumption)) rfl)) (by kernel_rfl) (by kernel_rfl)) ?_
  exact ⟨ta99, tc100, xva12, alb13, oac14, occ15, blc16, (some ⟨bk47, 0, none⟩), 1, ([UInt16.ofNat (nbV 2 ((begM l s o).2.1) ((begM l s o).2.2.1))] : List (RU16)), oa103, oc104, xs105, rfl, Hv126.pk [0, 3, 6, 1, 2], (((hs10.trans hs39).trans hs9).trans hs101), (by rw [hpu102]; show _ = ((begM l s o).1.1, (begM l s o).1.2.1, (begM l s o).1.2.2, _, _); rw [← hpu11]; rfl), hf17, hf18, (show (1 : Nat) ≤ 4294967296 by decide), hf106, hf107⟩

theorem got_server (w : World) (a : Option Addr) (c : Nat) (l : Bs) (i : InB w [] a c l) : Calls Try.prog 172 #[.slice a (List.length l) c, .func (.func 176) #[] #[]] w fun e w' => ∃ xva alb oac occ blc oad ocd xsd oae oce xse, e = .returned (.tuple #[.agg (List.toArray (([uv16 xva] : List Value) ++ ((bys alb) ++ ([.slice oac (List.length blc) occ, .slice oad (List.length xsd) ocd, .slice oae (List.length xse) oce] : List Value)))), .int .i64 (gotA (srvM l false false))]) ∧ Ev w [] w' [.vec oac occ 1 (bys blc) 5, .vec oad ocd 1 (List.flatMap fU16 xsd) 37, .vec oae oce 2 (List.flatMap fExt xse) 147, .grp (List.flatMap innExt xse)] ∧ (xva, alb, blc, List.map (fun y : RU16 => y) xsd, List.map (fun y : RExt => (y.1, y.2.1.l)) xse) = gotV (0, (List.replicate 32 0), [], [], []) (srvM l false false) ∧ List.length alb = 32 ∧ List.length blc ≤ 4294967296 ∧ List.length xsd ≤ 4294967296 ∧ List.length xse ≤ 4294967296 ∧ ∀ y ∈ xse, List.length y.2.1.l ≤ 140737488351232 := by
 refine d_0 [(0, .slice a (List.length l) c), (1, .func (.func 176) #[] #[])] 36 Go.Proofs.Try.func172 Go.Proofs.Try.ntmps172 (Heap.nil _) fun act0 En0 Hv0 => ?_
 refine wp_seq ?_
 refine region_from ?_
 refine f_o ?_
 refine m_z 75 (([.int .u16 0] : List Value) ++ ((bys (List.replicate 32 0)) ++ ([.slice none 0 0, .slice none 0 0, .slice none 0 0] : List Value))) En0 Hv0 fun ac2 wo3 bk1 En4 Hv5 => ?_
 refine d_e [0,1,4,5] [] En4 fun ac6 En7 => ?_
 refine then_normal ?_
 refine wp_seq ?_
 refine region_from ?_
 refine f_o ?_
 refine m_z 75 (([.int .u16 0] : List Value) ++ ((bys (List.replicate 32 0)) ++ ([.slice none 0 0, .slice none 0 0, .slice none 0 0] : List Value))) En7 Hv5 fun ac9 wo10 bk8 En11 Hv12 => ?_
 refine f_e ?_
 refine then_normal ?_
 refine wp_seq ?_
 refine region_from ?_
 refine d_k [1,4,5,6,10] [] 2 En11 fun ac13 En14 => ?_
 refine f_o ?_
 refine m_m 120 [.slice a (List.length l) c, .bool false, .bool false] En14 Hv12 fun ac16 wo17 bk15 En18 Hv19 => ?_
 refine d_e [1,4,5,6,7] [] En18 fun ac20 En21 => ?_
 refine then_normal ?_
 refine wp_seq ?_
 refine region_from ?_
 refine d_k [4,5,6,7,12,13] [] 2 En21 fun ac22 En23 => ?_
 refine f_o ?_
 refine c_l [2] (M := [.box bk15 [.slice a (List.length l) c, .bool false, .bool false] 120]) En23 Hv19 (fun hM44 => server_go _ bk15 a c l false false ((i.ev Hv19).pick [2] (by kernel_rfl)) hM44) ?_
 rintro _ wo45 ⟨ta24, tc25, xva28, alb29, oac30, occ31, blc32, oad33, ocd34, xsd35, oae36, oce37, xse38, rfl, he46, hs26, hpu27, hf39, hf40, hf41, hf42, hf43⟩
 refine ⟨_, _, [.box bk15 [.slice ta24 (List.length ((srvM l false false).2.1)) tc25, .bool ((srvM l false false).2.2.1), .bool ((srvM l false false).2.2.2)] 120, .vec oac30 occ31 1 (bys blc32) 5, .vec oad33 ocd34 1 (List.flatMap fU16 xsd35) 37, .vec oae36 oce37 2 (List.flatMap fExt xse38) 147, .grp (List.flatMap innExt xse38), .box bk1 (([.int .u16 0] : List Value) ++ ((bys (List.replicate 32 0)) ++ ([.slice none 0 0, .slice none 0 0, .slice none 0 0] : List Value))) 75, .box bk8 (([.int .u16 0] : List Value) ++ ((bys (List.replicate 32 0)) ++ ([.slice none 0 0, .slice none 0 0, .slice none 0 0] : List Value))) 75], rfl, he46, by kernel_rfl, fun ac48 En49 Hv50 => ?_⟩
 refine f_o ?_
 refine m_z 75 (([.int .u16 0] : List Value) ++ ((bys (List.replicate 32 0)) ++ ([.slice none 0 0, .slice none 0 0, .slice none 0 0] : List Value))) En49 Hv50 fun ac52 wo53 bk51 En54 Hv55 => ?_
 refine f_o ?_
 refine m_g 7 0 36 (([uv16 xva28] : List Value) ++ ((bys alb29) ++ ([.slice oac30 (List.length blc32) occ31, .slice oad33 (List.length xsd35) ocd34, .slice oae36 (List.length xse38) oce37] : List Value))) (([uv16 xva28] : List Value) ++ ((bys alb29) ++ ([.slice oac30 (List.length blc32) occ31, .slice oad33 (List.length xsd35) ocd34, .slice oae36 (List.length xse38) oce37] : List Value))) [.box bk15 [.slice ta24 (List.length ((srvM l false false).2.1)) tc25, .bool ((srvM l false false).2.2.1), .bool ((srvM l false false).2.2.2)] 120, .vec oac30 occ31 1 (bys blc32) 5, .vec oad33 ocd34 1 (List.flatMap fU16 xsd35) 37, .vec oae36 oce37 2 (List.flatMap fExt xse38) 147, .grp (List.flatMap innExt xse38), .box bk1 (([.int .u16 0] : List Value) ++ ((bys (List.replicate 32 0)) ++ ([.slice none 0 0, .slice none 0 0, .slice none 0 0] : List Value))) 75, .box bk8 (([.int .u16 0] : List Value) ++ ((bys (List.replicate 32 0)) ++ ([.slice none 0 0, .slice none 0 0, .slice none 0 0] : List Value))) 75, .box bk51 (([uv16 xva28] : List Value) ++ ((bys alb29) ++ ([.slice oac30 (List.length blc32) occ31, .slice oad33 (List.length xsd35) ocd34, .slice oae36 (List.length xse38) oce37] : List Value))) 75] En54 Hv55 rfl (len_app rfl (len_app (bys_lenh (by assumption)) rfl)) (by rw [(len_app rfl (len_app (bys_lenh (List.length_replicate)) rfl))]; first | decide | (simp; done)) (one_app (one_all (by kernel_rfl)) (one_app (bys_one _) (one_all (by kernel_rfl)))) (store_whole (len_app rfl (len_app (bys_lenh (List.length_replicate)) rfl))) rfl fun ac56 wo57 En58 Hv59 => ?_
 refine f_e ?_
 refine then_normal ?_
 refine wp_seq ?_
 refine wp_block ?_
 refine wp_seq ?_
 refine region_from ?_
 refine d_k [4,5,6,7,8,18] [] 3 En58 fun ac60 En61 => ?_
 refine f_o ?_
 refine m_l 0 En61 Hv59 fun ac62 En63 => ?_
 refine d_k [4,5,6,7,8,20] [] 5 En63 fun ac64 En65 => ?_
 rcases Bool.eq_false_or_eq_true ((srvM l false false).2.2.1) with hb66 | hb66
 ·
  have En67 := En65.fx (t := 20) (congrArg Value.bool hb66)
  have hp68 : (srvM l false false).2.2.1 = true := hb66
  refine d_e [4,5,6,7,8,15] [] En67 fun ac69 En70 => ?_
  refine then_normal ?_
  refine c_t En70 ?_
  refine wp_seq ?_
  refine region_from ?_
  refine f_o ?_
  refine m_a 6 0 36 (([.int .u16 0] : List Value) ++ ((bys (List.replicate 32 0)) ++ ([.slice none 0 0, .slice none 0 0, .slice none 0 0] : List Value))) En70 Hv59 rfl (load_whole (len_app rfl (len_app (bys_lenh (List.length_replicate)) rfl))) (len_app rfl (len_app (bys_lenh (List.length_replicate)) rfl)) fun ac71 En72 => ?_
  refine f_o ?_
  refine m_g 5 0 36 (([.int .u16 0] : List Value) ++ ((bys (List.replicate 32 0)) ++ ([.slice none 0 0, .slice none 0 0, .slice none 0 0] : List Value))) (([.int .u16 0] : List Value) ++ ((bys (List.replicate 32 0)) ++ ([.slice none 0 0, .slice none 0 0, .slice none 0 0] : List Value))) [.box bk15 [.slice ta24 (List.length ((srvM l false false).2.1)) tc25, .bool ((srvM l false false).2.2.1), .bool ((srvM l false false).2.2.2)] 120, .vec oac30 occ31 1 (bys blc32) 5, .vec oad33 ocd34 1 (List.flatMap fU16 xsd35) 37, .vec oae36 oce37 2 (List.flatMap fExt xse38) 147, .grp (List.flatMap innExt xse38), .box bk1 (([.int .u16 0] : List Value) ++ ((bys (List.replicate 32 0)) ++ ([.slice none 0 0, .slice none 0 0, .slice none 0 0] : List Value))) 75, .box bk8 (([.int .u16 0] : List Value) ++ ((bys (List.replicate 32 0)) ++ ([.slice none 0 0, .slice none 0 0, .slice none 0 0] : List Value))) 75, .box bk51 (([uv16 xva28] : List Value) ++ ((bys alb29) ++ ([.slice oac30 (List.length blc32) occ31, .slice oad33 (List.length xsd35) ocd34, .slice oae36 (List.length xse38) oce37] : List Value))) 75] En72 Hv59 rfl (len_app rfl (len_app (bys_lenh (List.length_replicate)) rfl)) (by rw [(len_app rfl (len_app (bys_lenh (List.length_replicate)) rfl))]; first | decide | (simp; done)) (one_app (one_all (by kernel_rfl)) (one_app (bys_one _) (one_all (by kernel_rfl)))) (store_whole (len_app rfl (len_app (bys_lenh (List.length_replicate)) rfl))) rfl fun ac73 wo74 En75 Hv76 => ?_
  refine d_e [4,5,6,7,8] [] En75 fun ac77 En78 => ?_
  refine then_normal ?_
  refine wp_ret ?_
  refine block_ret ?_
  refine then_ret ?_
  refine d_cell_tmp (v := .agg (List.toArray (([.int .u16 0] : List Value) ++ ((bys (List.replicate 32 0)) ++ ([.slice none 0 0, .slice none 0 0, .slice none 0 0] : List Value))))) (x := .int .i64 50) (t := 4) (T := 75) (ad := ⟨bk1, 0, none⟩) (u := 5) En78 (by kernel_rfl) (by kernel_rfl) (Ev.cellAgg (t := 75) (k := 5) (off := 0) (m := 36) (xs := ([.int .u16 0] : List Value) ++ ((bys (List.replicate 32 0)) ++ ([.slice none 0 0, .slice none 0 0, .slice none 0 0] : List Value))) Hv76 rfl (load_whole (len_app rfl (len_app (bys_lenh (List.length_replicate)) rfl))) (len_app rfl (len_app (bys_lenh (List.length_replicate)) rfl)) (by kernel_rfl) (by kernel_rfl)) (by kernel_rfl) ?_
  have eA : gotA (srvM l false false) = 50 := Eq.symm (by first | exact end_1 (by assumption) | exact end_2 (by omega) | exact end_3 (by assumption) (by omega) (by assumption))
  rw [gotV_n eA (by decide), eA]
  have Hv79 : Ev w [] wo74 [.box bk15 [.slice ta24 (List.length ((srvM l false false).2.1)) tc25, .bool ((srvM l false false).2.2.1), .bool ((srvM l false false).2.2.2)] 120, .vec oac30 occ31 1 (bys blc32) 5, .vec oad33 ocd34 1 (List.flatMap fU16 xsd35) 37, .vec oae36 oce37 2 (List.flatMap fExt xse38) 147, .grp (List.flatMap innExt xse38), .box bk1 (([.int .u16 0] : List Value) ++ ((bys (List.replicate 32 0)) ++ ([.slice none 0 0, .slice none 0 0, .slice none 0 0] : List Value))) 75, .box bk8 (([.int .u16 0] : List Value) ++ ((bys (List.replicate 32 0)) ++ ([.slice none 0 0, .slice none 0 0, .slice none 0 0] : List Value))) 75, .box bk51 (([uv16 xva28] : List Value) ++ ((bys alb29) ++ ([.slice oac30 (List.length blc32) occ31, .slice oad33 (List.length xsd35) ocd34, .slice oae36 (List.length xse38) oce37] : List Value))) 75, .vec none 0 1 (bys []) 5] := Ev.nil (sz := 1) (T := 5) Hv76
  have Hv80 : Ev w [] wo74 [.box bk15 [.slice ta24 (List.length ((srvM l false false).2.1)) tc25, .bool ((srvM l false false).2.2.1), .bool ((srvM l false false).2.2.2)] 120, .vec oac30 occ31 1 (bys blc32) 5, .vec oad33 ocd34 1 (List.flatMap fU16 xsd35) 37, .vec oae36 oce37 2 (List.flatMap fExt xse38) 147, .grp (List.flatMap innExt xse38), .box bk1 (([.int .u16 0] : List Value) ++ ((bys (List.replicate 32 0)) ++ ([.slice none 0 0, .slice none 0 0, .slice none 0 0] : List Value))) 75, .box bk8 (([.int .u16 0] : List Value) ++ ((bys (List.replicate 32 0)) ++ ([.slice none 0 0, .slice none 0 0, .slice none 0 0] : List Value))) 75, .box bk51 (([uv16 xva28] : List Value) ++ ((bys alb29) ++ ([.slice oac30 (List.length blc32) occ31, .slice oad33 (List.length xsd35) ocd34, .slice oae36 (List.length xse38) oce37] : List Value))) 75, .vec none 0 1 (bys []) 5, .vec none 0 1 (List.flatMap fU16 []) 37] := Ev.nil (sz := 1) (T := 37) Hv79
  have Hv81 : Ev w [] wo74 [.box bk15 [.slice ta24 (List.length ((srvM l false false).2.1)) tc25, .bool ((srvM l false false).2.2.1), .bool ((srvM l false false).2.2.2)] 120, .vec oac30 occ31 1 (bys blc32) 5, .vec oad33 ocd34 1 (List.flatMap fU16 xsd35) 37, .vec oae36 oce37 2 (List.flatMap fExt xse38) 147, .grp (List.flatMap innExt xse38), .box bk1 (([.int .u16 0] : List Value) ++ ((bys (List.replicate 32 0)) ++ ([.slice none 0 0, .slice none 0 0, .slice none 0 0] : List Value))) 75, .box bk8 (([.int .u16 0] : List Value) ++ ((bys (List.replicate 32 0)) ++ ([.slice none 0 0, .slice none 0 0, .slice none 0 0] : List Value))) 75, .box bk51 (([uv16 xva28] : List Value) ++ ((bys alb29) ++ ([.slice oac30 (List.length blc32) occ31, .slice oad33 (List.length xsd35) ocd34, .slice oae36 (List.length xse38) oce37] : List Value))) 75, .vec none 0 1 (bys []) 5, .vec none 0 1 (List.flatMap fU16 []) 37, .vec none 0 2 (List.flatMap fExt []) 147] := Ev.nil (sz := 2) (T := 147) Hv80
  have Hv82 : Ev w [] wo74 [.box bk15 [.slice ta24 (List.length ((srvM l false false).2.1)) tc25, .bool ((srvM l false false).2.2.1), .bool ((srvM l false false).2.2.2)] 120, .vec oac30 occ31 1 (bys blc32) 5, .vec oad33 ocd34 1 (List.flatMap fU16 xsd35) 37, .vec oae36 oce37 2 (List.flatMap fExt xse38) 147, .grp (List.flatMap innExt xse38), .box bk1 (([.int .u16 0] : List Value) ++ ((bys (List.replicate 32 0)) ++ ([.slice none 0 0, .slice none 0 0, .slice none 0 0] : List Value))) 75, .box bk8 (([.int .u16 0] : List Value) ++ ((bys (List.replicate 32 0)) ++ ([.slice none 0 0, .slice none 0 0, .slice none 0 0] : List Value))) 75, .box bk51 (([uv16 xva28] : List Value) ++ ((bys alb29) ++ ([.slice oac30 (List.length blc32) occ31, .slice oad33 (List.length xsd35) ocd34, .slice oae36 (List.length xse38) oce37] : List Value))) 75, .vec none 0 1 (bys []) 5, .vec none 0 1 (List.flatMap fU16 []) 37, .vec none 0 2 (List.flatMap fExt []) 147, .grp (List.flatMap innExt [])] := Ev.grp0 Hv81
  exact ⟨0, (List.replicate 32 0), none, 0, [], none, 0, [], none, 0, [], rfl, Hv82.pk [8, 9, 10, 11], rfl, List.length_replicate, (Nat.zero_le _), (Nat.zero_le _), (Nat.zero_le _), (fun y hy => by cases hy)⟩
 ·
  have En83 := En65.fx (t := 20) (congrArg Value.bool hb66)
  have hp84 : ¬ ((srvM l false false).2.2.1 = true) := Bool.eq_false_iff.1 hb66
  refine d_k [4,5,6,7,8,20,23] [] 8 En83 fun ac85 En86 => ?_
  refine f_o ?_
  refine m_l 0 En86 Hv59 fun ac87 En88 => ?_
  refine d_e [4,5,6,7,8,15] [] En88 fun ac89 En90 => ?_
  refine then_normal ?_
  refine c_d (((List.length ((srvM l false false).2.1) : Nat) : Int) > (0 : Int)) En90 (fun hc91 => ?_) (fun hc91 => ?_)
  ·
   refine wp_seq ?_
   refine region_from ?_
   refine f_o ?_
   refine m_a 6 0 36 (([.int .u16 0] : List Value) ++ ((bys (List.replicate 32 0)) ++ ([.slice none 0 0, .slice none 0 0, .slice none 0 0] : List Value))) En90 Hv59 rfl (load_whole (len_app rfl (len_app (bys_lenh (List.length_replicate)) rfl))) (len_app rfl (len_app (bys_lenh (List.length_replicate)) rfl)) fun ac92 En93 => ?_
   refine f_o ?_
   refine m_g 5 0 36 (([.int .u16 0] : List Value) ++ ((bys (List.replicate 32 0)) ++ ([.slice none 0 0, .slice none 0 0, .slice none 0 0] : List Value))) (([.int .u16 0] : List Value) ++ ((bys (List.replicate 32 0)) ++ ([.slice none 0 0, .slice none 0 0, .slice none 0 0] : List Value))) [.box bk15 [.slice ta24 (List.length ((srvM l false false).2.1)) tc25, .bool ((srvM l false false).2.2.1), .bool ((srvM l false false).2.2.2)] 120, .vec oac30 occ31 1 (bys blc32) 5, .vec oad33 ocd34 1 (List.flatMap fU16 xsd35) 37, .vec oae36 oce37 2 (List.flatMap fExt xse38) 147, .grp (List.flatMap innExt xse38), .box bk1 (([.int .u16 0] : List Value) ++ ((bys (List.replicate 32 0)) ++ ([.slice none 0 0, .slice none 0 0, .slice none 0 0] : List Value))) 75, .box bk8 (([.int .u16 0] : List Value) ++ ((bys (List.replicate 32 0)) ++ ([.slice none 0 0, .slice none 0 0, .slice none 0 0] : List Value))) 75, .box bk51 (([uv16 xva28] : List Value) ++ ((bys alb29) ++ ([.slice oac30 (List.length blc32) occ31, .slice oad33 (List.length xsd35) ocd34, .slice oae36 (List.length xse38) oce37] : List Value))) 75] En93 Hv59 rfl (len_app rfl (len_app (bys_lenh (List.length_replicate)) rfl)) (by rw [(len_app rfl (len_app (bys_lenh (List.length_replicate)) rfl))]; first | decide | (simp; done)) (one_app (one_all (by kernel_rfl)) (one_app (bys_one _) (one_all (by kernel_rfl)))) (store_whole (len_app rfl (len_app (bys_lenh (List.length_replicate)) rfl))) rfl fun ac94 wo95 En96 Hv97 => ?_
   refine d_e [4,5,6,7,8] [] En96 fun ac98 En99 => ?_
   refine then_normal ?_
   refine wp_ret ?_
   refine block_ret ?_
   refine then_ret ?_
   refine d_cell_tmp (v := .agg (List.toArray (([.int .u16 0] : List Value) ++ ((bys (List.replicate 32 0)) ++ ([.slice none 0 0, .slice none 0 0, .slice none 0 0] : List Value))))) (x := .int .i64 50) (t := 4) (T := 75) (ad := ⟨bk1, 0, none⟩) (u := 5) En99 (by kernel_rfl) (by kernel_rfl) (Ev.cellAgg (t := 75) (k := 5) (off := 0) (m := 36) (xs := ([.int .u16 0] : List Value) ++ ((bys (List.replicate 32 0)) ++ ([.slice none 0 0, .slice none 0 0, .slice none 0 0] : List Value))) Hv97 rfl (load_whole (len_app rfl (len_app (bys_lenh (List.length_replicate)) rfl))) (len_app rfl (len_app (bys_lenh (List.length_replicate)) rfl)) (by kernel_rfl) (by kernel_rfl)) (by kernel_rfl) ?_
   have eA : gotA (srvM l false false) = 50 := Eq.symm (by first | exact end_1 (by assumption) | exact end_2 (by omega) | exact end_3 (by assumption) (by omega) (by assumption))
   rw [gotV_n eA (by decide), eA]
   have Hv100 : Ev w [] wo95 [.box bk15 [.slice ta24 (List.length ((srvM l false false).2.1)) tc25, .bool ((srvM l false false).2.2.1), .bool ((srvM l false false).2.2.2)] 120, .vec oac30 occ31 1 (bys blc32) 5, .vec oad33 ocd34 1 (List.flatMap fU16 xsd35) 37, .vec oae36 oce37 2 (List.flatMap fExt xse38) 147, .grp (List.flatMap innExt xse38), .box bk1 (([.int .u16 0] : List Value) ++ ((bys (List.replicate 32 0)) ++ ([.slice none 0 0, .slice none 0 0, .slice none 0 0] : List Value))) 75, .box bk8 (([.int .u16 0] : List Value) ++ ((bys (List.replicate 32 0)) ++ ([.slice none 0 0, .slice none 0 0, .slice none 0 0] : List Value))) 75, .box bk51 (([uv16 xva28] : List Value) ++ ((bys alb29) ++ ([.slice oac30 (List.length blc32) occ31, .slice oad33 (List.length xsd35) ocd34, .slice oae36 (List.length xse38) oce37] : List Value))) 75, .vec none 0 1 (bys []) 5] := Ev.nil (sz := 1) (T := 5) Hv97
   have Hv101 : Ev w [] wo95 [.box bk15 [.slice ta24 (List.length ((srvM l false false).2.1)) tc25, .bool ((srvM l false false).2.2.1), .bool ((srvM l false false).2.2.2)] 120, .vec oac30 occ31 1 (bys blc32) 5, .vec oad33 ocd34 1 (List.flatMap fU16 xsd35) 37, .vec oae36 oce37 2 (List.flatMap fExt xse38) 147, .grp (List.flatMap innExt xse38), .box bk1 (([.int .u16 0] : List Value) ++ ((bys (List.replicate 32 0)) ++ ([.slice none 0 0, .slice none 0 0, .slice none 0 0] : List Value))) 75, .box bk8 (([.int .u16 0] : List Value) ++ ((bys (List.replicate 32 0)) ++ ([.slice none 0 0, .slice none 0 0, .slice none 0 0] : List Value))) 75, .box bk51 (([uv16 xva28] : List Value) ++ ((bys alb29) ++ ([.slice oac30 (List.length blc32) occ31, .slice oad33 (List.length xsd35) ocd34, .slice oae36 (List.length xse38) oce37] : List Value))) 75, .vec none 0 1 (bys []) 5, .vec none 0 1 (List.flatMap fU16 []) 37] := Ev.nil (sz := 1) (T := 37) Hv100
   have Hv102 : Ev w [] wo95 [.box bk15 [.slice ta24 (List.length ((srvM l false false).2.1)) tc25, .bool ((srvM l false false).2.2.1), .bool ((srvM l false false).2.2.2)] 120, .vec oac30 occ31 1 (bys blc32) 5, .vec oad33 ocd34 1 (List.flatMap fU16 xsd35) 37, .vec oae36 oce37 2 (List.flatMap fExt xse38) 147, .grp (List.flatMap innExt xse38), .box bk1 (([.int .u16 0] : List Value) ++ ((bys (List.replicate 32 0)) ++ ([.slice none 0 0, .slice none 0 0, .slice none 0 0] : List Value))) 75, .box bk8 (([.int .u16 0] : List Value) ++ ((bys (List.replicate 32 0)) ++ ([.slice none 0 0, .slice none 0 0, .slice none 0 0] : List Value))) 75, .box bk51 (([uv16 xva28] : List Value) ++ ((bys alb29) ++ ([.slice oac30 (List.length blc32) occ31, .slice oad33 (List.length xsd35) ocd34, .slice oae36 (List.length xse38) oce37] : List Value))) 75, .vec none 0 1 (bys []) 5, .vec none 0 1 (List.flatMap fU16 []) 37, .vec none 0 2 (List.flatMap fExt []) 147] := Ev.nil (sz := 2) (T := 147) Hv101
   have Hv103 : Ev w [] wo95 [.box bk15 [.slice ta24 (List.length ((srvM l false false).2.1)) tc25, .bool ((srvM l false false).2.2.1), .bool ((srvM l false false).2.2.2)] 120, .vec oac30 occ31 1 (bys blc32) 5, .vec oad33 ocd34 1 (List.flatMap fU16 xsd35) 37, .vec oae36 oce37 2 (List.flatMap fExt xse38) 147, .grp (List.flatMap innExt xse38), .box bk1 (([.int .u16 0] : List Value) ++ ((bys (List.replicate 32 0)) ++ ([.slice none 0 0, .slice none 0 0, .slice none 0 0] : List Value))) 75, .box bk8 (([.int .u16 0] : List Value) ++ ((bys (List.replicate 32 0)) ++ ([.slice none 0 0, .slice none 0 0, .slice none 0 0] : List Value))) 75, .box bk51 (([uv16 xva28] : List Value) ++ ((bys alb29) ++ ([.slice oac30 (List.length blc32) occ31, .slice oad33 (List.length xsd35) ocd34, .slice oae36 (List.length xse38) oce37] : List Value))) 75, .vec none 0 1 (bys []) 5, .vec none 0 1 (List.flatMap fU16 []) 37, .vec none 0 2 (List.flatMap fExt []) 147, .grp (List.flatMap innExt [])] := Ev.grp0 Hv102
   exact ⟨0, (List.replicate 32 0), none, 0, [], none, 0, [], none, 0, [], rfl, Hv103.pk [8, 9, 10, 11], rfl, List.length_replicate, (Nat.zero_le _), (Nat.zero_le _), (Nat.zero_le _), (fun y hy => by cases hy)⟩
  ·
   refine wp_seq ?_
   refine region_from ?_
   refine d_k [4,5,6,7,8,32] [] 3 En90 fun ac104 En105 => ?_
   refine f_o ?_
   refine m_l 0 En105 Hv59 fun ac106 En107 => ?_
   refine d_e [4,5,6,7,8,29] [] En107 fun ac108 En109 => ?_
   refine then_normal ?_
   refine cond_at En109 (t := (srvM l false false).2.2.2) (by kernel_rfl) (fun hc110 => ?_) (fun hc110 => ?_)
   ·
    replace hc110 : (srvM l false false).2.2.2 = true := hc110
    refine wp_seq ?_
    refine region_from ?_
    refine f_o ?_
    refine m_a 6 0 36 (([.int .u16 0] : List Value) ++ ((bys (List.replicate 32 0)) ++ ([.slice none 0 0, .slice none 0 0, .slice none 0 0] : List Value))) En109 Hv59 rfl (load_whole (len_app rfl (len_app (bys_lenh (List.length_replicate)) rfl))) (len_app rfl (len_app (bys_lenh (List.length_replicate)) rfl)) fun ac111 En112 => ?_
    refine f_o ?_
    refine m_g 5 0 36 (([.int .u16 0] : List Value) ++ ((bys (List.replicate 32 0)) ++ ([.slice none 0 0, .slice none 0 0, .slice none 0 0] : List Value))) (([.int .u16 0] : List Value) ++ ((bys (List.replicate 32 0)) ++ ([.slice none 0 0, .slice none 0 0, .slice none 0 0] : List Value))) [.box bk15 [.slice ta24 (List.length ((srvM l false false).2.1)) tc25, .bool ((srvM l false false).2.2.1), .bool ((srvM l false false).2.2.2)] 120, .vec oac30 occ31 1 (bys blc32) 5, .vec oad33 ocd34 1 (List.flatMap fU16 xsd35) 37, .vec oae36 oce37 2 (List.flatMap fExt xse38) 147, .grp (List.flatMap innExt xse38), .box bk1 (([.int .u16 0] : List Value) ++ ((bys (List.replicate 32 0)) ++ ([.slice none 0 0, .slice none 0 0, .slice none 0 0] : List Value))) 75, .box bk8 (([.int .u16 0] : List Value) ++ ((bys (List.replicate 32 0)) ++ ([.slice none 0 0, .slice none 0 0, .slice none 0 0] : List Value))) 75, .box bk51 (([uv16 xva28] : List Value) ++ ((bys alb29) ++ ([.slice oac30 (List.length blc32) occ31, .slice oad33 (List.length xsd35) ocd34, .slice oae36 (List.length xse38) oce37] : List Value))) 75] En112 Hv59 rfl (len_app rfl (len_app (bys_lenh (List.length_replicate)) rfl)) (by rw [(len_app rfl (len_app (bys_lenh (List.length_replicate)) rfl))]; first | decide | (simp; done)) (one_app (one_all (by kernel_rfl)) (one_app (bys_one _) (one_all (by kernel_rfl)))) (store_whole (len_app rfl (len_app (bys_lenh (List.length_replicate)) rfl))) rfl fun ac113 wo114 En115 Hv116 => ?_
    refine d_e [4,5,6,7,8] [] En115 fun ac117 En118 => ?_
    refine then_normal ?_
    refine wp_ret ?_
    refine block_ret ?_
    refine then_ret ?_
    refine d_cell_tmp (v := .agg (List.toArray (([.int .u16 0] : List Value) ++ ((bys (List.replicate 32 0)) ++ ([.slice none 0 0, .slice none 0 0, .slice none 0 0] : List Value))))) (x := .int .i64 47) (t := 4) (T := 75) (ad := ⟨bk1, 0, none⟩) (u := 5) En118 (by kernel_rfl) (by kernel_rfl) (Ev.cellAgg (t := 75) (k := 5) (off := 0) (m := 36) (xs := ([.int .u16 0] : List Value) ++ ((bys (List.replicate 32 0)) ++ ([.slice none 0 0, .slice none 0 0, .slice none 0 0] : List Value))) Hv116 rfl (load_whole (len_app rfl (len_app (bys_lenh (List.length_replicate)) rfl))) (len_app rfl (len_app (bys_lenh (List.length_replicate)) rfl)) (by kernel_rfl) (by kernel_rfl)) (by kernel_rfl) ?_
    have eA : gotA (srvM l false false) = 47 := Eq.symm (by first | exact end_1 (by assumption) | exact end_2 (by omega) | exact end_3 (by assumption) (by omega) (by assumption))
    rw [gotV_n eA (by decide), eA]
    have Hv119 : Ev w [] wo114 [.box bk15 [.slice ta24 (List.length ((srvM l false false).2.1)) tc25, .bool ((srvM l false false).2.2.1), .bool ((srvM l false false).2.2.2)] 120, .vec oac30 occ31 1 (bys blc32) 5, .vec oad33 ocd34 1 (List.flatMap fU16 xsd35) 37, .vec oae36 oce37 2 (List.flatMap fExt xse38) 147, .grp (List.flatMap innExt xse38), .box bk1 (([.int .u16 0] : List Value) ++ ((bys (List.replicate 32 0)) ++ ([.slice none 0 0, .slice none 0 0, .slice none 0 0] : List Value))) 75, .box bk8 (([.int .u16 0] : List Value) ++ ((bys (List.replicate 32 0)) ++ ([.slice none 0 0, .slice none 0 0, .slice none 0 0] : List Value))) 75, .box bk51 (([uv16 xva28] : List Value) ++ ((bys alb29) ++ ([.slice oac30 (List.length blc32) occ31, .slice oad33 (List.length xsd35) ocd34, .slice oae36 (List.length xse38) oce37] : List Value))) 75, .vec none 0 1 (bys []) 5] := Ev.nil (sz := 1) (T := 5) Hv116
    have Hv120 : Ev w [] wo114 [.box bk15 [.slice ta24 (List.length ((srvM l false false).2.1)) tc25, .bool ((srvM l false false).2.2.1), .bool ((srvM l false false).2.2.2)] 120, .vec oac30 occ31 1 (bys blc32) 5, .vec oad33 ocd34 1 (List.flatMap fU16 xsd35) 37, .vec oae36 oce37 2 (List.flatMap fExt xse38) 147, .grp (List.flatMap innExt xse38), .box bk1 (([.int .u16 0] : List Value) ++ ((bys (List.replicate 32 0)) ++ ([.slice none 0 0, .slice none 0 0, .slice none 0 0] : List Value))) 75, .box bk8 (([.int .u16 0] : List Value) ++ ((bys (List.replicate 32 0)) ++ ([.slice none 0 0, .slice none 0 0, .slice none 0 0] : List Value))) 75, .box bk51 (([uv16 xva28] : List Value) ++ ((bys alb29) ++ ([.slice oac30 (List.length blc32) occ31, .slice oad33 (List.length xsd35) ocd34, .slice oae36 (List.length xse38) oce37] : List Value))) 75, .vec none 0 1 (bys []) 5, .vec none 0 1 (List.flatMap fU16 []) 37] := Ev.nil (sz := 1) (T := 37) Hv119
    have Hv121 : Ev w [] wo114 [.box bk15 [.slice ta24 (List.length ((srvM l false false).2.1)) tc25, .bool ((srvM l false false).2.2.1), .bool ((srvM l false false).2.2.2)] 120, .vec oac30 occ31 1 (bys blc32) 5, .vec oad33 ocd34 1 (List.flatMap fU16 xsd35) 37, .vec oae36 oce37 2 (List.flatMap fExt xse38) 147, .grp (List.flatMap innExt xse38), .box bk1 (([.int .u16 0] : List Value) ++ ((bys (List.replicate 32 0)) ++ ([.slice none 0 0, .slice none 0 0, .slice none 0 0] : List Value))) 75, .box bk8 (([.int .u16 0] : List Value) ++ ((bys (List.replicate 32 0)) ++ ([.slice none 0 0, .slice none 0 0, .slice none 0 0] : List Value))) 75, .box bk51 (([uv16 xva28] : List Value) ++ ((bys alb29) ++ ([.slice oac30 (List.length blc32) occ31, .slice oad33 (List.length xsd35) ocd34, .slice oae36 (List.length xse38) oce37] : List Value))) 75, .vec none 0 1 (bys []) 5, .vec none 0 1 (List.flatMap fU16 []) 37, .vec none 0 2 (List.flatMap fExt []) 147] := Ev.nil (sz := 2) (T := 147) Hv120
    have Hv122 : Ev w [] wo114 [.box bk15 [.slice ta24 (List.length ((srvM l false false).2.1)) tc25, .bool ((srvM l false false).2.2.1), .bool ((srvM l false false).2.2.2)] 120, .vec oac30 occ31 1 (bys blc32) 5, .vec oad33 ocd34 1 (List.flatMap fU16 xsd35) 37, .vec oae36 oce37 2 (List.flatMap fExt xse38) 147, .grp (List.flatMap innExt xse38), .box bk1 (([.int .u16 0] : List Value) ++ ((bys (List.replicate 32 0)) ++ ([.slice none 0 0, .slice none 0 0, .slice none 0 0] : List Value))) 75, .box bk8 (([.int .u16 0] : List Value) ++ ((bys (List.replicate 32 0)) ++ ([.slice none 0 0, .slice none 0 0, .slice none 0 0] : List Value))) 75, .box bk51 (([uv16 xva28] : List Value) ++ ((bys alb29) ++ ([.slice oac30 (List.length blc32) occ31, .slice oad33 (List.length xsd35) ocd34, .slice oae36 (List.length xse38) oce37] : List Value))) 75, .vec none 0 1 (bys []) 5, .vec none 0 1 (List.flatMap fU16 []) 37, .vec none 0 2 (List.flatMap fExt []) 147, .grp (List.flatMap innExt [])] := Ev.grp0 Hv121
    exact ⟨0, (List.replicate 32 0), none, 0, [], none, 0, [], none, 0, [], rfl, Hv122.pk [8, 9, 10, 11], rfl, List.length_replicate, (Nat.zero_le _), (Nat.zero_le _), (Nat.zero_le _), (fun y hy => by cases hy)⟩
   ·
    replace hc110 : ¬ ((srvM l false false).2.2.2 = true) := Bool.eq_false_iff.1 hc110
    refine wp_skip ?_
    refine block_normal ?_
    refine then_normal ?_
    refine wp_seq ?_
    refine region_from ?_
    refine f_o ?_
    refine m_a 7 0 36 (([uv16 xva28] : List Value) ++ ((bys alb29) ++ ([.slice oac30 (List.length blc32) occ31, .slice oad33 (List.length xsd35) ocd34, .slice oae36 (List.length xse38) oce37] : List Value))) En109 Hv59 rfl (load_whole (len_app rfl (len_app (bys_lenh (by assumption)) rfl))) (len_app rfl (len_app (bys_lenh (by assumption)) rfl)) fun ac123 En124 => ?_
    refine f_o ?_
    refine m_g 5 0 36 (([uv16 xva28] : List Value) ++ ((bys alb29) ++ ([.slice oac30 (List.length blc32) occ31, .slice oad33 (List.length xsd35) ocd34, .slice oae36 (List.length xse38) oce37] : List Value))) (([uv16 xva28] : List Value) ++ ((bys alb29) ++ ([.slice oac30 (List.length blc32) occ31, .slice oad33 (List.length xsd35) ocd34, .slice oae36 (List.length xse38) oce37] : List Value))) [.box bk15 [.slice ta24 (List.length ((srvM l false false).2.1)) tc25, .bool ((srvM l false false).2.2.1), .bool ((srvM l false false).2.2.2)] 120, .vec oac30 occ31 1 (bys blc32) 5, .vec oad33 ocd34 1 (List.flatMap fU16 xsd35) 37, .vec oae36 oce37 2 (List.flatMap fExt xse38) 147, .grp (List.flatMap innExt xse38), .box bk1 (([uv16 xva28] : List Value) ++ ((bys alb29) ++ ([.slice oac30 (List.length blc32) occ31, .slice oad33 (List.length xsd35) ocd34, .slice oae36 (List.length xse38) oce37] : List Value))) 75, .box bk8 (([.int .u16 0] : List Value) ++ ((bys (List.replicate 32 0)) ++ ([.slice none 0 0, .slice none 0 0, .slice none 0 0] : List Value))) 75, .box bk51 (([uv16 xva28] : List Value) ++ ((bys alb29) ++ ([.slice oac30 (List.length blc32) occ31, .slice oad33 (List.length xsd35) ocd34, .slice oae36 (List.length xse38) oce37] : List Value))) 75] En124 Hv59 rfl (len_app rfl (len_app (bys_lenh (by assumption)) rfl)) (by rw [(len_app rfl (len_app (bys_lenh (List.length_replicate)) rfl))]; first | decide | (simp; done)) (one_app (one_all (by kernel_rfl)) (one_app (bys_one _) (one_all (by kernel_rfl)))) (store_whole (len_app rfl (len_app (bys_lenh (List.length_replicate)) rfl))) rfl fun ac125 wo126 En127 Hv128 => ?_
    refine d_e [4,5,6,7,8] [] En127 fun ac129 En130 => ?_
    refine then_normal ?_
    refine wp_ret ?_
    refine d_cell_tmp (v := .agg (List.toArray (([uv16 xva28] : List Value) ++ ((bys alb29) ++ ([.slice oac30 (List.length blc32) occ31, .slice oad33 (List.length xsd35) ocd34, .slice oae36 (List.length xse38) oce37] : List Value))))) (x := .int .i64 0) (t := 4) (T := 75) (ad := ⟨bk1, 0, none⟩) (u := 5) En130 (by kernel_rfl) (by kernel_rfl) (Ev.cellAgg (t := 75) (k := 5) (off := 0) (m := 36) (xs := ([uv16 xva28] : List Value) ++ ((bys alb29) ++ ([.slice oac30 (List.length blc32) occ31, .slice oad33 (List.length xsd35) ocd34, .slice oae36 (List.length xse38) oce37] : List Value))) Hv128 rfl (load_whole (len_app rfl (len_app (bys_lenh (by assumption)) rfl))) (len_app rfl (len_app (bys_lenh (by assumption)) rfl)) (by kernel_rfl) (by kernel_rfl)) (by kernel_rfl) ?_
    have eA : gotA (srvM l false false) = 0 := (end_4 (by assumption) (by omega) (by assumption)).symm
    rw [gotV_0 eA, eA]
    exact ⟨xva28, alb29, oac30, occ31, blc32, oad33, ocd34, xsd35, oae36, oce37, xse38, rfl, Hv128.pk [1, 2, 3, 4], hpu27, hf39, hf40, hf41, hf42, hf43⟩

theorem getserver_go (w : World) (aq : Option Addr) (nq cq : Nat) (lq : List UInt8) (eq : nq = List.length lq) (iq : InB w [] aq cq lq) : Calls Try.prog 70 #[.slice aq nq cq] w fun e w' => ∃ xva alb oac occ blc oad ocd xsd oae oce xse, e = .returned (.tuple #[.agg (List.toArray (([uv16 xva] : List Value) ++ ((bys alb) ++ ([.slice oac (List.length blc) occ, .slice oad (List.length xsd) ocd, .slice oae (List.length xse) oce] : List Value)))), .int .i64 (gotA (srvM lq false false))]) ∧ Ev w [] w' [.vec oac occ 1 (bys blc) 5, .vec oad ocd 1 (List.flatMap fU16 xsd) 37, .vec oae oce 2 (List.flatMap fExt xse) 147, .grp (List.flatMap innExt xse)] ∧ (xva, alb, blc, List.map (fun y : RU16 => y) xsd, List.map (fun y : RExt => (y.1, y.2.1.l)) xse) = gotV (0, (List.replicate 32 0), [], [], []) (srvM lq false false) ∧ List.length alb = 32 ∧ List.length blc ≤ 4294967296 ∧ List.length xsd ≤ 4294967296 ∧ List.length xse ≤ 4294967296 ∧ ∀ y ∈ xse, List.length y.2.1.l ≤ 140737488351232 := by
 subst eq
 refine d_0 [(0, .slice aq (List.length lq) cq)] 8 Go.Proofs.Try.func70 Go.Proofs.Try.ntmps70 (Heap.nil _) fun act0 En0 Hv0 => ?_
 refine wp_seq ?_
 refine region_from ?_
 refine f_o ?_
 refine m_z 75 (([.int .u16 0] : List Value) ++ ((bys (List.replicate 32 0)) ++ ([.slice none 0 0, .slice none 0 0, .slice none 0 0] : List Value))) En0 Hv0 fun ac2 wo3 bk1 En4 Hv5 => ?_
 refine d_e [0,2,3] [] En4 fun ac6 En7 => ?_
 refine then_normal ?_
 refine wp_seq ?_
 refine region_from ?_
 refine d_k [2,3,4] [] 1 En7 fun ac8 En9 => ?_
 refine f_o ?_
 refine c_0 En9 Hv5 (got_server _ aq cq lq ((iq.ev Hv5).pick [] (by kernel_rfl))) ?_
 rintro _ wo28 ⟨xva10, alb11, oac12, occ13, blc14, oad15, ocd16, xsd17, oae18, oce19, xse20, rfl, he29, hpu21, hf22, hf23, hf24, hf25, hf26⟩
 refine ⟨_, _, _, rfl, he29, rfl, fun ac31 En32 Hv33 => ?_⟩
 refine d_k [2,3,6,7] [] 4 En32 fun ac34 En35 => ?_
 refine f_o ?_
 refine m_g 4 0 36 (([uv16 xva10] : List Value) ++ ((bys alb11) ++ ([.slice oac12 (List.length blc14) occ13, .slice oad15 (List.length xsd17) ocd16, .slice oae18 (List.length xse20) oce19] : List Value))) (([uv16 xva10] : List Value) ++ ((bys alb11) ++ ([.slice oac12 (List.length blc14) occ13, .slice oad15 (List.length xsd17) ocd16, .slice oae18 (List.length xse20) oce19] : List Value))) [.vec oac12 occ13 1 (bys blc14) 5, .vec oad15 ocd16 1 (List.flatMap fU16 xsd17) 37, .vec oae18 oce19 2 (List.flatMap fExt xse20) 147, .grp (List.flatMap innExt xse20), .box bk1 (([uv16 xva10] : List Value) ++ ((bys alb11) ++ ([.slice oac12 (List.length blc14) occ13, .slice oad15 (List.length xsd17) ocd16, .slice oae18 (List.length xse20) oce19] : List Value))) 75] En35 Hv33 rfl (len_app rfl (len_app (bys_lenh (by assumption)) rfl)) (by rw [(len_app rfl (len_app (bys_lenh (List.length_replicate)) rfl))]; first | decide | (simp; done)) (one_app (one_all (by kernel_rfl)) (one_app (bys_one _) (one_all (by kernel_rfl)))) (store_whole (len_app rfl (len_app (bys_lenh (List.length_replicate)) rfl))) rfl fun ac36 wo37 En38 Hv39 => ?_
 refine d_e [2,3] [] En38 fun ac40 En41 => ?_
 refine then_normal ?_
 refine wp_ret ?_
 refine d_cell_tmp (v := .agg (List.toArray (([uv16 xva10] : List Value) ++ ((bys alb11) ++ ([.slice oac12 (List.length blc14) occ13, .slice oad15 (List.length xsd17) ocd16, .slice oae18 (List.length xse20) oce19] : List Value))))) (x := .int .i64 (gotA (srvM lq false false))) (t := 2) (T := 75) (ad := ⟨bk1, 0, none⟩) (u := 3) En41 (by kernel_rfl) (by kernel_rfl) (Ev.cellAgg (t := 75) (k := 4) (off := 0) (m := 36) (xs := ([uv16 xva10] : List Value) ++ ((bys alb11) ++ ([.slice oac12 (List.length blc14) occ13, .slice oad15 (List.length xsd17) ocd16, .slice oae18 (List.length xse20) oce19] : List Value))) Hv39 rfl (load_whole (len_app rfl (len_app (bys_lenh (by assumption)) rfl))) (len_app rfl (len_app (bys_lenh (by assumption)) rfl)) (by kernel_rfl) (by kernel_rfl)) (by kernel_rfl) ?_
 exact ⟨xva10, alb11, oac12, occ13, blc14, oad15, ocd16, xsd17, oae18, oce19, xse20, rfl, Hv39.pk [0, 1, 2, 3], hpu21, hf22, hf23, hf24, hf25, hf26⟩

end Go.Proofs.Ytofecellbfhnjaa
