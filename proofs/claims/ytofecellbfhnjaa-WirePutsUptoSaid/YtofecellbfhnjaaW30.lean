/- Layer 17: extensions are found, by both. -/
import Derived.Test.YtofecellbfhnjaaW29
namespace Go.Proofs.Ytofecellbfhnjaa
open Go.Dbr
set_option maxRecDepth 100000
set_option maxHeartbeats 2000000
set_option linter.unusedVariables false
set_option linter.unusedSimpArgs false

abbrev RExt := (UInt16) × (Sl UInt8) × Unit
abbrev fExt : RExt → List Value := (fun p : (UInt16) × (Sl UInt8) × Unit => (fun n : UInt16 => [uv16 n]) p.1 ++ (fun p : (Sl UInt8) × Unit => (fun s : Sl UInt8 => s.f) p.1 ++ (fun _ : Unit => []) p.2) p.2)
abbrev EX := UInt16 × Bs
def fdN (t : UInt16) : List EX → Nat
  | [] => 0
  | p :: r => if p.1 = t then 0 else fdN t r + 1
def fdP (t : UInt16) : List EX → Bs × Bool
  | [] => ([], false)
  | p :: r => if p.1 = t then (p.2, true) else fdP t r
def fdI (t : UInt16) (ps : List EX) : Int := if fdN t ps < ps.length then (fdN t ps : Int) else -1
theorem fd_get {t : UInt16} : ∀ {ps : List EX} {p : EX}, ps[fdN t ps]? = some p → fdP t ps = (p.2, true)
  | [], _, h => by simp [fdN] at h
  | q :: r, p, h => by
    by_cases e : q.1 = t
    · rw [fdN, if_pos e, List.getElem?_cons_zero] at h
      rw [fdP, if_pos e, Option.some.inj h]
    · rw [fdN, if_neg e, List.getElem?_cons_succ] at h
      rw [fdP, if_neg e]
      exact fd_get h
theorem fd_no {t : UInt16} : ∀ {ps : List EX}, ¬ fdN t ps < ps.length → fdP t ps = ([], false)
  | [], _ => rfl
  | q :: r, h => by
    by_cases e : q.1 = t
    · rw [fdN, if_pos e] at h
      exact absurd (Nat.succ_pos _) h
    · rw [fdN, if_neg e, List.length_cons] at h
      rw [fdP, if_neg e]
      exact fd_no (by omega)
theorem fd_hit {α : Type} {t : UInt16} {f : α → EX} {xs : List α} {i : Nat} {x : α} (hi : fdN t (List.map f xs) = i + fdN t (List.drop i (List.map f xs))) (hx : xs[i]? = some x) (e : (f x).1 = t) : fdN t (List.map f xs) = i ∧ fdP t (List.map f xs) = ((f x).2, true) := by
  have hp : (List.map f xs)[i]? = some (f x) := by rw [List.getElem?_map, hx]; rfl
  obtain ⟨hl, hg⟩ := List.getElem?_eq_some_iff.1 hp
  have hd : List.drop i (List.map f xs) = f x :: List.drop (i + 1) (List.map f xs) := by rw [List.drop_eq_getElem_cons hl, hg]
  have h1 : fdN t (List.map f xs) = i := by rw [hi, hd, fdN, if_pos e, Nat.add_zero]
  exact ⟨h1, fd_get (by rw [h1]; exact hp)⟩
theorem fd_go {α : Type} {t : UInt16} {f : α → EX} {xs : List α} {i : Nat} {x : α} (hi : fdN t (List.map f xs) = i + fdN t (List.drop i (List.map f xs))) (hx : xs[i]? = some x) (e : ¬ (f x).1 = t) : fdN t (List.map f xs) = i + 1 + fdN t (List.drop (i + 1) (List.map f xs)) := by
  have hp : (List.map f xs)[i]? = some (f x) := by rw [List.getElem?_map, hx]; rfl
  obtain ⟨hl, hg⟩ := List.getElem?_eq_some_iff.1 hp
  have hd : List.drop i (List.map f xs) = f x :: List.drop (i + 1) (List.map f xs) := by rw [List.drop_eq_getElem_cons hl, hg]
  rw [hi, hd, fdN, if_neg e]
  omega
theorem fd_end {α : Type} {t : UInt16} {f : α → EX} {xs : List α} {i : Nat} (hi : fdN t (List.map f xs) = i + fdN t (List.drop i (List.map f xs))) (h : ¬ i < xs.length) : ¬ fdN t (List.map f xs) < (List.map f xs).length := by
  rw [hi, List.length_map]
  omega
theorem fdI_n {t : UInt16} {ps : List EX} (h : ¬ fdN t ps < ps.length) : fdI t ps = -1 := by rw [fdI, if_neg h]
theorem fdI_y {t : UInt16} {ps : List EX} (h : fdN t ps < ps.length) : fdI t ps = (fdN t ps : Int) := by rw [fdI, if_pos h]
theorem fdI_neg {t : UInt16} {ps : List EX} (h : fdI t ps < 0) : ¬ fdN t ps < ps.length := fun g => by
  rw [fdI_y g] at h
  omega
theorem fdI_pos {t : UInt16} {ps : List EX} (h : ¬ fdI t ps < 0) : fdN t ps < ps.length := Decidable.byContradiction fun g => h (by rw [fdI_n g]; decide)

theorem find1_go (w : World) (tb : Nat) (t g : UInt16) (ab : Option Addr) (cb : Nat) (b : Bs) (ib : InB w [.box tb [uv16 t] 37] ab cb b) (hH : Heap w [.box tb [uv16 t] 37]) : Calls Try.prog 134 #[.agg #[uv16 g, .slice ab (List.length b) cb], pt tb] w fun e w' => e = .returned (.bool (((UInt16.toNat g : Nat) : Int) == ((UInt16.toNat t : Nat) : Int))) ∧ Ev w [.box tb [uv16 t] 37] w' [.box tb [uv16 t] 37] := by
 refine d_0 [(0, .agg #[uv16 g, .slice ab (List.length b) cb]), (1, pt tb)] 8 Go.Proofs.Try.func134 Go.Proofs.Try.ntmps134 (hH) fun act0 En0 Hv0 => ?_
 refine wp_seq ?_
 refine region_from ?_
 refine f_o ?_
 refine m_m 147 [uv16 g, .slice ab (List.length b) cb] En0 Hv0 fun ac2 wo3 bk1 En4 Hv5 => ?_
 refine d_e [1,2,3] [] En4 fun ac6 En7 => ?_
 refine then_normal ?_
 refine wp_seq ?_
 refine region_from ?_
 refine d_k [1,3,4] [] 1 En7 fun ac8 En9 => ?_
 refine f_o ?_
 refine m_l 1 En9 Hv5 fun ac10 En11 => ?_
 refine f_o ?_
 refine m_l 0 En11 Hv5 fun ac12 En13 => ?_
 refine d_e [3] [] En13 fun ac14 En15 => ?_
 refine then_normal ?_
 refine wp_ret ?_
 refine d_ret1 (t := 3) (v := .bool (((UInt16.toNat g : Nat) : Int) == ((UInt16.toNat t : Nat) : Int))) En15 (by kernel_rfl) (by kernel_rfl) ?_
 exact ⟨rfl, Hv5.pk [0]⟩

theorem indexf_go (w : World) (tb : Nat) (t : UInt16) (al : Option Addr) (cl : Nat) (xs : List RExt) (il : InS fExt 32 (fun y : RExt => (True ∧ (InB w [.box tb [uv16 t] 37] y.2.1.a y.2.1.c y.2.1.l ∧ (True)))) w [.box tb [uv16 t] 37] al cl xs) (hH : Heap w [.box tb [uv16 t] 37]) : Calls Try.prog 133 #[.slice al (List.length xs) cl, .func (.func 134) #[] #[pt tb]] w fun e w' => e = .returned (.int .i64 (fdI t (List.map (fun y : RExt => (y.1, y.2.1.l)) xs))) ∧ Ev w [.box tb [uv16 t] 37] w' [.box tb [uv16 t] 37] := by
 refine d_0 [(0, .slice al (List.length xs) cl), (1, .func (.func 134) #[] #[pt tb])] 19 Go.Proofs.Try.func133 Go.Proofs.Try.ntmps133 (hH) fun act0 En0 Hv0 => ?_
 refine wp_seq ?_
 refine d_r [0,1,4] [] En0 fun ac1 En2 => ?_
 refine then_normal ?_
 refine wp_seq ?_
 refine wp_seq ?_
 refine d_r [0,1,4,7,8] [] En2 fun ac3 En4 => ?_
 refine then_normal ?_
 refine wp_block ?_
 refine loop_m (fun ms5 ac wo => ∃ (i : Nat), ms5 = (List.length xs + 1 - i : Nat) ∧ Env ac 19 [(0, .slice al (List.length xs) cl), (1, .func (.func 134) #[] #[pt tb]), (7, .int .i64 ((List.length xs : Nat) : Int)), (8, ni i)] ∧ Ev w [.box tb [uv16 t] 37] wo [.box tb [uv16 t] 37] ∧ (fdN t (List.map (fun y : RExt => (y.1, y.2.1.l)) xs) = i + fdN t (List.drop i (List.map (fun y : RExt => (y.1, y.2.1.l)) xs)))) ⟨_, 0, rfl, En4.sb, Hv0.pk [0], (by rw [List.drop_zero, Nat.zero_add])⟩ ?_
 rintro mm11 ac7 wo8 ⟨i, rfl, En9, Hv10, hfi⟩
 refine wp_seq ?_
 refine d_r [0,1,7,8,9] [] En9 fun ac12 En13 => ?_
 refine then_normal ?_
 refine wp_seq ?_
 refine c_d (((i : Nat) : Int) < ((List.length xs : Nat) : Int)) En13 (fun hc14 => ?_) (fun hc14 => ?_)
 ·
  refine wp_skip ?_
  refine then_normal ?_
  refine wp_seq ?_
  refine wp_block ?_
  refine wp_seq ?_
  refine d_r [0,1,5,7,8] [] En13 fun ac15 En16 => ?_
  refine then_normal ?_
  refine wp_seq ?_
  have hzl := il.small
  have hb19 : i < List.length xs := (by omega)
  obtain ⟨adr17, had18⟩ := some_of il.nz hb19
  have hb20 : i < List.length xs := by omega
  obtain ⟨⟨x22a, ⟨a_x22b, c_x22b, x22b⟩, _⟩, hx21⟩ : ∃ x, (xs)[i]? = some x := ⟨_, List.getElem?_eq_getElem hb20⟩
  obtain ⟨_, i_x22b, _⟩ := il.each _ (List.mem_of_getElem? hx21)
  replace i_x22b : InB w [.box tb [uv16 t] 37] a_x22b c_x22b x22b := i_x22b
  refine region_from ?_
  refine d_k [0,1,5,7,8,11,12,13] [] 3 En16 fun ac23 En24 => ?_
  refine f_o ?_
  refine q_v (x := Instr.indexAt 36 (.slice al (List.length xs) cl) (ni i)) (v := .pointer (some (Addr.add adr17 (i * 2)))) En24 (Go.Dbr.run_indexsl (e := 147) (sz := 2) (j := i) (jo := i * 2) had18 (by kernel_rfl) (by kernel_rfl) (by omega) hb19 rfl _) fun ac25 En26 => ?_
  refine f_o ?_
  refine op_loadaggat (d := some 15) (t := 147) (ad := adr17) (ao := al) (ys := List.flatMap fExt xs) (o := i * 2) (m := 2) (xs := [uv16 x22a, .slice a_x22b (List.length x22b) c_x22b]) En26 (by kernel_rfl) rfl (il.ro.ev Hv10).reads had18 (fun j hj => ?_) rfl (by kernel_rfl) (by kernel_rfl) ?_
  ·
   exact flat_sub (sz := 2) (off := 0) (m := 2) (fun _ _ => rfl) hx21 (by decide) rfl j hj
  intro ac27 En28
  refine f_o ?_
  refine c_l [0] (M := [.box tb [uv16 t] 37]) En28 Hv10 (fun hM29 => find1_go _ tb t x22a a_x22b c_x22b x22b ((i_x22b.ev Hv10).pick [0] (by kernel_rfl)) hM29) ?_
  rintro _ wo30 ⟨rfl, he31⟩
  refine ⟨_, _, [.box tb [uv16 t] 37], rfl, he31, by kernel_rfl, fun ac33 En34 Hv35 => ?_⟩
  refine f_e ?_
  refine then_normal ?_
  refine cond_at En34 (t := ((UInt16.toNat x22a : Nat) : Int) == ((UInt16.toNat t : Nat) : Int)) (by kernel_rfl) (fun hc36 => ?_) (fun hc36 => ?_)
  ·
   replace hc36 : ((UInt16.toNat x22a : Nat) : Int) = ((UInt16.toNat t : Nat) : Int) := eq_of_beq hc36
   refine wp_seq ?_
   refine d_r [0,1,4,5,7,8] [] En34 fun ac37 En38 => ?_
   refine then_normal ?_
   refine wp_ret ?_
   refine block_ret ?_
   refine then_ret ?_
   refine then_ret ?_
   refine block_ret ?_
   refine then_ret ?_
   refine d_ret1 (t := 4) (v := ni i) En38 (by kernel_rfl) (by kernel_rfl) ?_
   obtain ⟨hN, hP⟩ := fd_hit (f := (fun y : RExt => (y.1, y.2.1.l))) hfi hx21 (u16_eq (by assumption))
   have hL : fdN t (List.map (fun y : RExt => (y.1, y.2.1.l)) xs) < List.length (List.map (fun y : RExt => (y.1, y.2.1.l)) xs) := by rw [hN, List.length_map]; omega
   exact ⟨congrArg (fun z => Ending.returned (Value.int .i64 z)) (by rw [fdI_y hL, hN]), Hv35.pk [0]⟩
  ·
   replace hc36 : ¬ (((UInt16.toNat x22a : Nat) : Int) = ((UInt16.toNat t : Nat) : Int)) := ne_of_beq_false hc36
   refine wp_skip ?_
   refine block_normal ?_
   refine then_normal ?_
   refine d_r [0,1,5,7,8] [(0, g_n (w_a i 1))] En34 fun ac39 En40 => ?_
   refine then_normal ?_
   refine ⟨_, ⟨i + 1, rfl, En40.sb, Hv35.pk [0], (fd_go hfi hx21 (fun g => absurd (congrArg (fun z : UInt16 => ((UInt16.toNat z : Nat) : Int)) g) (by assumption)))⟩, ?_⟩
   omega
 ·
  refine wp_exit ?_
  refine then_exit ?_
  refine then_exit ?_
  refine block_exit ?_
  refine then_normal ?_
  refine wp_seq ?_
  refine d_r [0,1,4,7,8] [] En13 fun ac41 En42 => ?_
  refine then_normal ?_
  refine wp_ret ?_
  refine d_ret1 (t := 4) (v := .int .i64 (-1)) En42 (by kernel_rfl) (by kernel_rfl) ?_
  exact ⟨congrArg (fun z => Ending.returned (Value.int .i64 z)) (fdI_n (fd_end hfi (by omega))).symm, Hv10.pk [0]⟩

theorem find_go (w : World) (al : Option Addr) (cl : Nat) (xs : List RExt) (il : InS fExt 32 (fun y : RExt => (True ∧ (InB w [] y.2.1.a y.2.1.c y.2.1.l ∧ (True)))) w [] al cl xs) (t : UInt16) : Calls Try.prog 39 #[.slice al (List.length xs) cl, uv16 t] w fun e w' => ∃ a' c', e = .returned (.tuple #[.slice a' (List.length (fdP t (List.map (fun y : RExt => (y.1, y.2.1.l)) xs)).1) c', .bool ((fdP t (List.map (fun y : RExt => (y.1, y.2.1.l)) xs)).2)]) ∧ Ev w [] w' [.vec a' c' 1 (bys ((fdP t (List.map (fun y : RExt => (y.1, y.2.1.l)) xs)).1)) 5] := by
 refine d_0 [(0, .slice al (List.length xs) cl), (1, uv16 t)] 18 Go.Proofs.Try.func39 Go.Proofs.Try.ntmps39 (Heap.nil _) fun act0 En0 Hv0 => ?_
 refine wp_seq ?_
 refine region_from ?_
 refine f_o ?_
 refine m_m 37 [uv16 t] En0 Hv0 fun ac2 wo3 bk1 En4 Hv5 => ?_
 refine d_e [0,3,4,5] [] En4 fun ac6 En7 => ?_
 refine then_normal ?_
 refine wp_seq ?_
 refine region_from ?_
 refine d_k [0,4,5,7,8] [] 2 En7 fun ac8 En9 => ?_
 refine f_o ?_
 refine c_l [0] (M := [.box bk1 [uv16 t] 37]) En9 Hv5 (fun hM10 => indexf_go _ bk1 t al cl xs (il.go Hv5 [0] (by kernel_rfl) (fun _ h => ⟨h.1, (InB.ev h.2.1 Hv5).pick [0] (by kernel_rfl), h.2.2⟩)) hM10) ?_
 rintro _ wo11 ⟨rfl, he12⟩
 refine ⟨_, _, [.box bk1 [uv16 t] 37], rfl, he12, by kernel_rfl, fun ac14 En15 Hv16 => ?_⟩
 refine d_e [0,4,5,6] [] En15 fun ac17 En18 => ?_
 refine then_normal ?_
 refine wp_seq ?_
 refine wp_seq ?_
 refine d_r [0,4,5,6,11] [] En18 fun ac19 En20 => ?_
 refine then_normal ?_
 refine c_d (fdI t (List.map (fun y : RExt => (y.1, y.2.1.l)) xs) < (0 : Int)) En20 (fun hc21 => ?_) (fun hc21 => ?_)
 ·
  refine wp_seq ?_
  refine d_r [0,4,5,6] [] En20 fun ac22 En23 => ?_
  refine then_normal ?_
  refine wp_ret ?_
  refine then_ret ?_
  refine d_ret2 (t := 4) (u := 5) (v := .slice none 0 0) (x := .bool false) En23 (by kernel_rfl) (by kernel_rfl) (by kernel_rfl) ?_
  rw [fd_no (ps := (List.map (fun y : RExt => (y.1, y.2.1.l)) xs)) (t := t) (fdI_neg (by omega))]
  exact ⟨none, 0, rfl, (Ev.nil (sz := 1) (T := 5) Hv16).pk [1]⟩
 ·
  refine wp_skip ?_
  refine then_normal ?_
  refine wp_seq ?_
  have hL := fdI_pos (ps := (List.map (fun y : RExt => (y.1, y.2.1.l)) xs)) (t := t) (by omega)
  have hI := fdI_y hL
  rw [List.length_map] at hL
  have hzl := il.small
  have hb26 : fdN t (List.map (fun y : RExt => (y.1, y.2.1.l)) xs) < List.length xs := (by omega)
  obtain ⟨adr24, had25⟩ := some_of il.nz hb26
  have hb27 : fdN t (List.map (fun y : RExt => (y.1, y.2.1.l)) xs) < List.length xs := by omega
  obtain ⟨⟨x29a, ⟨a_x29b, c_x29b, x29b⟩, _⟩, hx28⟩ : ∃ x, (xs)[fdN t (List.map (fun y : RExt => (y.1, y.2.1.l)) xs)]? = some x := ⟨_, List.getElem?_eq_getElem hb27⟩
  obtain ⟨_, i_x29b, _⟩ := il.each _ (List.mem_of_getElem? hx28)
  replace i_x29b : InB w [] a_x29b c_x29b x29b := i_x29b
  refine region_from ?_
  refine d_k [0,4,5,6,12,13] [(1, g_i .i64 (hI))] 2 En20 fun ac30 En31 => ?_
  refine f_o ?_
  refine q_v (x := Instr.indexAt 36 (.slice al (List.length xs) cl) (.int .i64 ((fdN t (List.map (fun y : RExt => (y.1, y.2.1.l)) xs) : Nat) : Int))) (v := .pointer (some (Addr.add adr24 ((fdN t (List.map (fun y : RExt => (y.1, y.2.1.l)) xs)) * 2)))) En31 (Go.Dbr.run_indexsl (e := 147) (sz := 2) (j := fdN t (List.map (fun y : RExt => (y.1, y.2.1.l)) xs)) (jo := (fdN t (List.map (fun y : RExt => (y.1, y.2.1.l)) xs)) * 2) had25 (by kernel_rfl) (by kernel_rfl) (by omega) hb26 rfl _) fun ac32 En33 => ?_
  refine d_k [0,4,5,6,15] [] 4 En33 fun ac34 En35 => ?_
  refine f_o ?_
  refine op_loadf (d := some 16) (t := 23) (ad := adr24) (ao := al) (ys := List.flatMap fExt xs) (o := (fdN t (List.map (fun y : RExt => (y.1, y.2.1.l)) xs)) * 2 + 1) (v := .slice a_x29b (List.length x29b) c_x29b) En35 (by kernel_rfl) (Deep.add_add _ _ _) (il.ro.ev Hv16).reads had25 ((flat_get (sz := 2) (j := 1) (fun _ _ => rfl) hx28 (by decide)).trans rfl) (by kernel_rfl) ?_
  intro ac36 En37
  refine f_o ?_
  refine c_0 En37 Hv16 (clone_go _ a_x29b c_x29b x29b ((i_x29b.ev Hv16).pick [] (by kernel_rfl))) ?_
  rintro _ wo41 ⟨ao38, cp39, rfl, he42⟩
  refine ⟨_, _, _, rfl, he42, rfl, fun ac44 En45 Hv46 => ?_⟩
  refine d_e [0,4,5,6] [] En45 fun ac47 En48 => ?_
  refine then_normal ?_
  refine wp_ret ?_
  refine d_ret2 (t := 4) (u := 5) (v := .slice ao38 (List.length x29b) cp39) (x := .bool true) En48 (by kernel_rfl) (by kernel_rfl) (by kernel_rfl) ?_
  rw [fd_get (ps := (List.map (fun y : RExt => (y.1, y.2.1.l)) xs)) (t := t) (by rw [List.getElem?_map, hx28]; rfl)]
  exact ⟨ao38, cp39, rfl, Hv46.pk [0]⟩

theorem dfind_go (w : World) (al : Option Addr) (cl : Nat) (xs : List RExt) (il : InS fExt 32 (fun y : RExt => (True ∧ (InB w [] y.2.1.a y.2.1.c y.2.1.l ∧ (True)))) w [] al cl xs) (t : UInt16) : Calls Try.prog 40 #[.slice al (List.length xs) cl, uv16 t] w fun e w' => ∃ a' c', e = .returned (.tuple #[.slice a' (List.length (fdP t (List.map (fun y : RExt => (y.1, y.2.1.l)) xs)).1) c', .bool ((fdP t (List.map (fun y : RExt => (y.1, y.2.1.l)) xs)).2)]) ∧ Ev w [] w' [.vec a' c' 1 (bys ((fdP t (List.map (fun y : RExt => (y.1, y.2.1.l)) xs)).1)) 5] := by
 refine d_0 [(0, .slice al (List.length xs) cl), (1, uv16 t)] 27 Go.Proofs.Try.func40 Go.Proofs.Try.ntmps40 (Heap.nil _) fun act0 En0 Hv0 => ?_
 refine wp_seq ?_
 refine d_r [0,1,4,5] [] En0 fun ac1 En2 => ?_
 refine then_normal ?_
 refine wp_seq ?_
 refine wp_seq ?_
 refine d_r [0,1,4,5,6] [] En2 fun ac3 En4 => ?_
 refine then_normal ?_
 refine wp_block ?_
 refine loop_m (fun ms5 ac wo => ∃ (i : Nat), ms5 = (List.length xs + 1 - i : Nat) ∧ Env ac 27 [(0, .slice al (List.length xs) cl), (1, uv16 t), (6, ni i)] ∧ Ev w [] wo [] ∧ (fdN t (List.map (fun y : RExt => (y.1, y.2.1.l)) xs) = i + fdN t (List.drop i (List.map (fun y : RExt => (y.1, y.2.1.l)) xs)))) ⟨_, 0, rfl, En4.sb, Hv0.pk [], (by rw [List.drop_zero, Nat.zero_add])⟩ ?_
 rintro mm11 ac7 wo8 ⟨i, rfl, En9, Hv10, hfi⟩
 refine wp_seq ?_
 refine wp_seq ?_
 refine d_r [0,1,6,10] [] En9 fun ac12 En13 => ?_
 refine then_normal ?_
 refine c_d (((i : Nat) : Int) < ((List.length xs : Nat) : Int)) En13 (fun hc14 => ?_) (fun hc14 => ?_)
 ·
  refine wp_skip ?_
  refine then_normal ?_
  refine wp_seq ?_
  refine wp_block ?_
  refine wp_seq ?_
  have hzl := il.small
  have hb17 : i < List.length xs := (by omega)
  obtain ⟨adr15, had16⟩ := some_of il.nz hb17
  have hb18 : i < List.length xs := by omega
  obtain ⟨⟨x20a, ⟨a_x20b, c_x20b, x20b⟩, _⟩, hx19⟩ : ∃ x, (xs)[i]? = some x := ⟨_, List.getElem?_eq_getElem hb18⟩
  obtain ⟨_, i_x20b, _⟩ := il.each _ (List.mem_of_getElem? hx19)
  replace i_x20b : InB w [] a_x20b c_x20b x20b := i_x20b
  refine region_from ?_
  refine d_k [0,1,6,13,14] [] 2 En13 fun ac21 En22 => ?_
  refine f_o ?_
  refine q_v (x := Instr.indexAt 36 (.slice al (List.length xs) cl) (ni i)) (v := .pointer (some (Addr.add adr15 (i * 2)))) En22 (Go.Dbr.run_indexsl (e := 147) (sz := 2) (j := i) (jo := i * 2) had16 (by kernel_rfl) (by kernel_rfl) (by omega) hb17 rfl _) fun ac23 En24 => ?_
  refine d_k [0,1,6,16] [] 4 En24 fun ac25 En26 => ?_
  refine f_o ?_
  refine op_loadf (d := some 17) (t := 37) (ad := adr15) (ao := al) (ys := List.flatMap fExt xs) (o := i * 2) (v := uv16 x20a) En26 (by kernel_rfl) rfl (il.ro.ev Hv10).reads had16 ((flat_get (sz := 2) (j := 0) (fun _ _ => rfl) hx19 (by decide)).trans rfl) (by kernel_rfl) ?_
  intro ac27 En28
  refine d_e [0,1,6,19] [] En28 fun ac29 En30 => ?_
  refine then_normal ?_
  refine c_e ((UInt16.toNat x20a : Nat) : Int) ((UInt16.toNat t : Nat) : Int) En30 (fun hc31 => ?_) (fun hc31 => ?_)
  ·
   refine wp_seq ?_
   have hds := i_x20b.small
   refine region_from ?_
   refine f_o ?_
   refine op_lit (d := some 20) (t := 23) (T := 5) (m := 0) (parts := #[]) (xs := bys []) (sz := 1) En30 (by kernel_rfl) (by kernel_rfl) rfl (by decide) Hv10 ?_
   intro ac33 wo34 bk32 En35 Hv36
   have hb39 : i < List.length xs := (by omega)
   obtain ⟨adr37, had38⟩ := some_of il.nz hb39
   refine d_k [0,1,6,20,21,22] [] 3 En35 fun ac40 En41 => ?_
   refine f_o ?_
   refine q_v (x := Instr.indexAt 36 (.slice al (List.length xs) cl) (ni i)) (v := .pointer (some (Addr.add adr37 (i * 2)))) En41 (Go.Dbr.run_indexsl (e := 147) (sz := 2) (j := i) (jo := i * 2) had38 (by kernel_rfl) (by kernel_rfl) (by omega) hb39 rfl _) fun ac42 En43 => ?_
   refine d_k [0,1,6,20,24] [] 5 En43 fun ac44 En45 => ?_
   refine f_o ?_
   refine op_loadf (d := some 25) (t := 23) (ad := adr37) (ao := al) (ys := List.flatMap fExt xs) (o := i * 2 + 1) (v := .slice a_x20b (List.length x20b) c_x20b) En45 (by kernel_rfl) (Deep.add_add _ _ _) (il.ro.ev Hv36).reads had38 ((flat_get (sz := 2) (j := 1) (fun _ _ => rfl) hx19 (by decide)).trans rfl) (by kernel_rfl) ?_
   intro ac46 En47
   refine f_o ?_
   have hsm48 := i_x20b.small
   refine op_append (d := some 26) (t := 23) (tx := 23) (ty := 23) (k := 0) (p := 0) (m := List.length x20b) (x := .slice a_x20b (List.length x20b) c_x20b) (bytes := 1) En47 (by kernel_rfl) Hv36 rfl rfl (Reads.src (size := 1) (tx := 23) (e' := 5) (by kernel_rfl) (i_x20b.ev Hv36).reads (bys_len _) i_x20b.nz (bys_one _)) (by kernel_rfl) (z := .int .u8 0) (by kernel_rfl) rfl (by decide) (by omega) (by unfold maxLen; omega) ?_
   intro ac53 wo54 ao49 cp50 En55 Hv56 hnz _
   clear hnz
   rw [bys_nil_append] at Hv56
   have ehz51 : 0 + (List.length x20b) = List.length x20b := (by first | (simp; done) | (simp; omega) | omega)
   rw [ehz51] at En55
   refine d_e [0,1,4,5,6] [] En55 fun ac57 En58 => ?_
   refine then_normal ?_
   refine wp_ret ?_
   refine block_ret ?_
   refine then_ret ?_
   refine then_ret ?_
   refine block_ret ?_
   refine then_ret ?_
   refine d_ret2 (t := 4) (u := 5) (v := .slice ao49 (List.length x20b) cp50) (x := .bool true) En58 (by kernel_rfl) (by kernel_rfl) (by kernel_rfl) ?_
   rw [(fd_hit (f := (fun y : RExt => (y.1, y.2.1.l))) hfi hx19 (u16_eq (by assumption))).2]
   exact ⟨ao49, cp50, rfl, Hv56.pk [0]⟩
  ·
   refine wp_skip ?_
   refine block_normal ?_
   refine then_normal ?_
   refine d_r [0,1,6] [(1, g_n (w_a i 1))] En30 fun ac59 En60 => ?_
   refine then_normal ?_
   refine ⟨_, ⟨i + 1, rfl, En60.sb, Hv10.pk [], (fd_go hfi hx19 (fun g => absurd (congrArg (fun z : UInt16 => ((UInt16.toNat z : Nat) : Int)) g) (by assumption)))⟩, ?_⟩
   omega
 ·
  refine wp_exit ?_
  refine then_exit ?_
  refine then_exit ?_
  refine block_exit ?_
  refine then_normal ?_
  refine wp_seq ?_
  refine d_r [0,1,4,5,6] [] En13 fun ac61 En62 => ?_
  refine then_normal ?_
  refine wp_ret ?_
  refine d_ret2 (t := 4) (u := 5) (v := .slice none 0 0) (x := .bool false) En62 (by kernel_rfl) (by kernel_rfl) (by kernel_rfl) ?_
  rw [fd_no (fd_end hfi (by omega))]
  exact ⟨none, 0, rfl, (Ev.nil (sz := 1) (T := 5) Hv10).pk [0]⟩

end Go.Proofs.Ytofecellbfhnjaa
