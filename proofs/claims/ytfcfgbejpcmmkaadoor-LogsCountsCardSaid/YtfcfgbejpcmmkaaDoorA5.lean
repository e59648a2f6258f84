/- Layer 3: keys. -/
import Derived.Test.YtfcfgbejpcmmkaaDoorA4
import Derived.Test.YtfcfgbejpcmmkaaDoorCutS
namespace Go.Proofs.YtfcfgbejpcmmkaaDoor
open Go.Dbr
set_option maxRecDepth 100000
set_option maxHeartbeats 2000000
set_option linter.unusedVariables false
set_option linter.unusedSimpArgs false

abbrev RPair := (List UInt8) × (Bool) × (UInt64) × (List UInt8) × Unit
abbrev fPair : RPair → List Value := (fun p : (List UInt8) × (Bool) × (UInt64) × (List UInt8) × Unit => (fun l : List UInt8 => [.string (bstr l)]) p.1 ++ (fun p : (Bool) × (UInt64) × (List UInt8) × Unit => (fun b : Bool => [.bool b]) p.1 ++ (fun p : (UInt64) × (List UInt8) × Unit => (fun n : UInt64 => [uv64 n]) p.1 ++ (fun p : (List UInt8) × Unit => (fun l : List UInt8 => [.string (bstr l)]) p.1 ++ (fun _ : Unit => []) p.2) p.2) p.2) p.2)
def fdN (t : Bs) : List RPair → Nat
  | [] => 0
  | p :: r => if p.1 = t then 0 else fdN t r + 1
def fdI (t : Bs) (ps : List RPair) : Int := if fdN t ps < ps.length then (fdN t ps : Int) else -1
def hasK (t : Bs) (ps : List RPair) : Bool := decide (fdN t ps < ps.length)
theorem fd_hit {t : Bs} {xs : List RPair} {i : Nat} {x : RPair} (hi : fdN t xs = i + fdN t (List.drop i xs)) (hx : xs[i]? = some x) (e : x.1 = t) : fdN t xs = i := by
  obtain ⟨hl, hg⟩ := List.getElem?_eq_some_iff.1 hx
  rw [hi, List.drop_eq_getElem_cons hl, hg, fdN, if_pos e, Nat.add_zero]
theorem fd_go {t : Bs} {xs : List RPair} {i : Nat} {x : RPair} (hi : fdN t xs = i + fdN t (List.drop i xs)) (hx : xs[i]? = some x) (e : ¬ x.1 = t) : fdN t xs = i + 1 + fdN t (List.drop (i + 1) xs) := by
  obtain ⟨hl, hg⟩ := List.getElem?_eq_some_iff.1 hx
  rw [hi, List.drop_eq_getElem_cons hl, hg, fdN, if_neg e]
  omega
theorem fd_end {t : Bs} {xs : List RPair} {i : Nat} (hi : fdN t xs = i + fdN t (List.drop i xs)) (h : ¬ i < xs.length) : ¬ fdN t xs < xs.length := by rw [hi]; omega
theorem fdI_n {t : Bs} {ps : List RPair} (h : ¬ fdN t ps < ps.length) : fdI t ps = -1 := by rw [fdI, if_neg h]
theorem fdI_y {t : Bs} {ps : List RPair} (h : fdN t ps < ps.length) : fdI t ps = (fdN t ps : Int) := by rw [fdI, if_pos h]
theorem fdI_ge (t : Bs) (ps : List RPair) : decide (fdI t ps ≥ (0 : Int)) = hasK t ps := by
  rw [hasK, fdI]
  split
  · rename_i h; rw [decide_eq_true h]; exact decide_eq_true (by omega)
  · rename_i h; rw [decide_eq_false h]; exact decide_eq_false (by omega)
theorem has_n {t : Bs} {ps : List RPair} (h : ¬ fdN t ps < ps.length) : hasK t ps = false := decide_eq_false h
theorem has_y {t : Bs} {ps : List RPair} (h : fdN t ps < ps.length) : hasK t ps = true := decide_eq_true h
/-- may a key stand behind pairs? -/
def keyB (k : Bs) (ps : List RPair) : Bool := wordB k && !(k == [116]) && !(k == [101, 118]) && !hasK k ps
theorem key_w {k : Bs} {ps : List RPair} (h : keyB k ps = true) : k.length ≤ 32 := by
  unfold keyB at h
  simp only [Bool.and_eq_true] at h
  exact (word_len h.1.1.1).2

theorem keyed1_go (w : World) (tb : Nat) (t k : Bs) (b : Bool) (n : UInt64) (v : Bs) (hH : Heap w [.box tb [.string (bstr t)] 9]) : Calls Tryd.prog 39 #[.agg #[.string (bstr k), .bool b, uv64 n, .string (bstr v)], pt tb] w fun e w' => e = .returned (.bool (k == t)) ∧ Ev w [.box tb [.string (bstr t)] 9] w' [.box tb [.string (bstr t)] 9] := by
 refine d_0 [(0, .agg #[.string (bstr k), .bool b, uv64 n, .string (bstr v)]), (1, pt tb)] 8 Go.Proofs.Tryd.func39 Go.Proofs.Tryd.ntmps39 (hH) fun act0 En0 Hv0 => ?_
 refine wp_seq ?_
 refine region_from ?_
 refine f_o ?_
 refine m_m 35 [.string (bstr k), .bool b, uv64 n, .string (bstr v)] En0 Hv0 fun ac2 wo3 bk1 En4 Hv5 => ?_
 refine d_e [1,2,3] [] En4 fun ac6 En7 => ?_
 refine then_normal ?_
 refine wp_seq ?_
 refine region_from ?_
 refine d_k [1,3,4] [] 1 En7 fun ac8 En9 => ?_
 refine f_o ?_
 refine m_l 1 En9 Hv5 fun ac10 En11 => ?_
 refine f_o ?_
 refine m_l 0 En11 Hv5 fun ac12 En13 => ?_
 refine d_e [3] [(3, g_v (show (.bool (ByteArray.toList (bstr k) == ByteArray.toList (bstr t)) : Value) = .bool (k == t) by rw [Go.Dbr.bstr_eq k t] <;> rfl))] En13 fun ac14 En15 => ?_
 refine then_normal ?_
 refine wp_ret ?_
 refine d_ret1 (t := 3) (v := .bool (k == t)) En15 (by kernel_rfl) (by kernel_rfl) ?_
 exact ⟨rfl, Hv5.pick [0] (by kernel_rfl) (by decide)⟩

theorem indexf_go (w : World) (tb : Nat) (t : Bs) (al : Option Addr) (cl : Nat) (xs : List RPair) (il : InS fPair 48 (fun y : RPair => ((List.length y.1 ≤ 140737488351232) ∧ (True ∧ (True ∧ ((List.length y.2.2.2.1 ≤ 140737488351232) ∧ (True)))))) w [.box tb [.string (bstr t)] 9] al cl xs) (hH : Heap w [.box tb [.string (bstr t)] 9]) : Calls Tryd.prog 55 #[.slice al (List.length xs) cl, .func (.func 39) #[] #[pt tb]] w fun e w' => e = .returned (.int .i64 (fdI t xs)) ∧ Ev w [.box tb [.string (bstr t)] 9] w' [.box tb [.string (bstr t)] 9] := by
 refine d_0 [(0, .slice al (List.length xs) cl), (1, .func (.func 39) #[] #[pt tb])] 19 Go.Proofs.Tryd.func55 Go.Proofs.Tryd.ntmps55 (hH) fun act0 En0 Hv0 => ?_
 refine wp_seq ?_
 refine d_r [0,1,4] [] En0 fun ac1 En2 => ?_
 refine then_normal ?_
 refine wp_seq ?_
 refine wp_seq ?_
 refine d_r [0,1,4,7,8] [] En2 fun ac3 En4 => ?_
 refine then_normal ?_
 refine wp_block ?_
 refine loop_m (fun ms5 ac wo => ∃ (i : Nat), ms5 = (List.length xs + 1 - i : Nat) ∧ Env ac 19 [(0, .slice al (List.length xs) cl), (1, .func (.func 39) #[] #[pt tb]), (7, .int .i64 ((List.length xs : Nat) : Int)), (8, ni i)] ∧ Ev w [.box tb [.string (bstr t)] 9] wo [.box tb [.string (bstr t)] 9] ∧ (fdN t xs = i + fdN t (List.drop i xs))) ⟨_, 0, rfl, En4.sub (by kernel_rfl), Hv0.pick [0] (by kernel_rfl) (by decide), (by rw [List.drop_zero, Nat.zero_add])⟩ ?_
 rintro mm11 ac7 wo8 ⟨i, rfl, En9, Hv10, hfi⟩
 refine wp_seq ?_
 refine d_r [0,1,7,8,9] [] En9 fun ac12 En13 => ?_
 refine then_normal ?_
 refine wp_seq ?_
 refine c_d (((i : Nat) : Int) < ((List.length xs : Nat) : Int)) En13 (fun hc14 => ?_) (fun hc14 => ?_)
 ·
  refine wp_skip ?_
  refine then_normal ?_
  refine wp_seq ?_
  refine wp_block ?_
  refine wp_seq ?_
  refine d_r [0,1,5,7,8] [] En13 fun ac15 En16 => ?_
  refine then_normal ?_
  refine wp_seq ?_
  have hzl := il.small
  have hb19 : i < List.length xs := (by omega)
  obtain ⟨adr17, had18⟩ := some_of il.nz hb19
  have hb20 : i < List.length xs := by omega
  obtain ⟨⟨x22a, x22b, x22c, x22d, _⟩, hx21⟩ : ∃ x, (xs)[i]? = some x := ⟨_, List.getElem?_eq_getElem hb20⟩
  obtain ⟨s_x22a, _, _, s_x22d, _⟩ := il.each _ (List.mem_of_getElem? hx21)
  replace s_x22a : (List.length x22a ≤ 140737488351232) := s_x22a
  replace s_x22d : (List.length x22d ≤ 140737488351232) := s_x22d
  refine region_from ?_
  refine d_k [0,1,5,7,8,11,12,13] [] 3 En16 fun ac23 En24 => ?_
  refine f_o ?_
  refine q_v (x := Instr.indexAt 23 (.slice al (List.length xs) cl) (ni i)) (v := .pointer (some (Addr.add adr17 (i * 4)))) En24 (Go.Dbr.run_indexsl (e := 35) (sz := 4) (j := i) (jo := i * 4) had18 (by kernel_rfl) (by kernel_rfl) (by omega) hb19 rfl _) fun ac25 En26 => ?_
  refine f_o ?_
  refine op_loadaggat (d := some 15) (t := 35) (ad := adr17) (ao := al) (ys := List.flatMap fPair xs) (o := i * 4) (m := 4) (xs := [.string (bstr x22a), .bool x22b, uv64 x22c, .string (bstr x22d)]) En26 (by kernel_rfl) rfl (il.ro.ev Hv10).reads had18 (fun j hj => ?_) rfl (by kernel_rfl) (by kernel_rfl) ?_
  ·
   exact flat_sub (sz := 4) (off := 0) (m := 4) (fun _ _ => rfl) hx21 (by decide) rfl j hj
  intro ac27 En28
  refine f_o ?_
  refine c_l [0] (M := [.box tb [.string (bstr t)] 9]) En28 Hv10 (fun hM29 => keyed1_go _ tb t x22a x22b x22c x22d hM29) ?_
  rintro _ wo30 ⟨rfl, he31⟩
  refine ⟨_, _, [.box tb [.string (bstr t)] 9], rfl, he31, by kernel_rfl, fun ac33 En34 Hv35 => ?_⟩
  refine f_e ?_
  refine then_normal ?_
  refine cond_at En34 (t := x22a == t) (by kernel_rfl) (fun hc36 => ?_) (fun hc36 => ?_)
  ·
   replace hc36 : x22a = t := eq_of_beq hc36
   refine wp_seq ?_
   refine d_r [0,1,4,5,7,8] [] En34 fun ac37 En38 => ?_
   refine then_normal ?_
   refine wp_ret ?_
   refine block_ret ?_
   refine then_ret ?_
   refine then_ret ?_
   refine block_ret ?_
   refine then_ret ?_
   refine d_ret1 (t := 4) (v := ni i) En38 (by kernel_rfl) (by kernel_rfl) ?_
   have hN := fd_hit hfi hx21 (by assumption)
   have hL : fdN t xs < List.length xs := by rw [hN]; omega
   exact ⟨congrArg (fun z => Ending.returned (Value.int .i64 z)) (by rw [fdI_y hL, hN]), Hv35.pick [0] (by kernel_rfl) (by decide)⟩
  ·
   replace hc36 : ¬ (x22a = t) := ne_of_beq_false hc36
   refine wp_skip ?_
   refine block_normal ?_
   refine then_normal ?_
   refine d_r [0,1,5,7,8] [(0, g_n (w_a i 1))] En34 fun ac39 En40 => ?_
   refine then_normal ?_
   refine ⟨_, ⟨i + 1, rfl, En40.sub (by kernel_rfl), Hv35.pick [0] (by kernel_rfl) (by decide), (fd_go hfi hx21 (by assumption))⟩, ?_⟩
   omega
 ·
  refine wp_exit ?_
  refine then_exit ?_
  refine then_exit ?_
  refine block_exit ?_
  refine then_normal ?_
  refine wp_seq ?_
  refine d_r [0,1,4,7,8] [] En13 fun ac41 En42 => ?_
  refine then_normal ?_
  refine wp_ret ?_
  refine d_ret1 (t := 4) (v := .int .i64 (-1)) En42 (by kernel_rfl) (by kernel_rfl) ?_
  exact ⟨congrArg (fun z => Ending.returned (Value.int .i64 z)) (fdI_n (fd_end hfi (by omega))).symm, Hv10.pick [0] (by kernel_rfl) (by decide)⟩

theorem contf_go (w : World) (tb : Nat) (t : Bs) (al : Option Addr) (cl : Nat) (xs : List RPair) (il : InS fPair 48 (fun y : RPair => ((List.length y.1 ≤ 140737488351232) ∧ (True ∧ (True ∧ ((List.length y.2.2.2.1 ≤ 140737488351232) ∧ (True)))))) w [.box tb [.string (bstr t)] 9] al cl xs) (hH : Heap w [.box tb [.string (bstr t)] 9]) : Calls Tryd.prog 38 #[.slice al (List.length xs) cl, .func (.func 39) #[] #[pt tb]] w fun e w' => e = .returned (.bool (hasK t xs)) ∧ Ev w [.box tb [.string (bstr t)] 9] w' [.box tb [.string (bstr t)] 9] := by
 refine d_0 [(0, .slice al (List.length xs) cl), (1, .func (.func 39) #[] #[pt tb])] 9 Go.Proofs.Tryd.func38 Go.Proofs.Tryd.ntmps38 (hH) fun act0 En0 Hv0 => ?_
 refine d_s [0,1,4] [] En0 fun ac1 En2 => ?_
 refine wp_seq ?_
 refine region_from ?_
 refine d_k [4,5,6] [] 2 En2 fun ac3 En4 => ?_
 refine f_o ?_
 refine c_l [0] (M := [.box tb [.string (bstr t)] 9]) En4 Hv0 (fun hM5 => indexf_go _ tb t al cl xs (il.go Hv0 [0] (by kernel_rfl) (fun _ h => ⟨h.1, h.2.1, h.2.2.1, h.2.2.2.1, h.2.2.2.2⟩)) hM5) ?_
 rintro _ wo6 ⟨rfl, he7⟩
 refine ⟨_, _, [.box tb [.string (bstr t)] 9], rfl, he7, by kernel_rfl, fun ac9 En10 Hv11 => ?_⟩
 refine d_e [4] [(3, g_v (show (.bool (decide (fdI t xs ≥ (0 : Int))) : Value) = .bool (hasK t xs) by rw [fdI_ge t xs] <;> rfl))] En10 fun ac12 En13 => ?_
 refine then_normal ?_
 refine wp_ret ?_
 refine d_ret1 (t := 4) (v := .bool (hasK t xs)) En13 (by kernel_rfl) (by kernel_rfl) ?_
 exact ⟨rfl, Hv11.pick [0] (by kernel_rfl) (by decide)⟩

theorem keyed_go (w : World) (k : Bs) (hk : List.length k ≤ 140737488351232) (m0 : Nat) (al : Option Addr) (cl : Nat) (xs : List RPair) (il : InS fPair 48 (fun y : RPair => ((List.length y.1 ≤ 140737488351232) ∧ (True ∧ (True ∧ ((List.length y.2.2.2.1 ≤ 140737488351232) ∧ (True)))))) w [] al cl xs) (em : m0 = List.length xs) : Calls Tryd.prog 19 #[.string (bstr k), .slice al m0 cl] w fun e w' => e = .returned (.bool (keyB k xs)) ∧ Ev w [] w' [] := by
 subst em
 refine d_0 [(0, .string (bstr k)), (1, .slice al (List.length xs) cl)] 21 Go.Proofs.Tryd.func19 Go.Proofs.Tryd.ntmps19 (Heap.nil _) fun act0 En0 Hv0 => ?_
 refine wp_seq ?_
 refine region_from ?_
 refine f_o ?_
 refine m_m 9 [.string (bstr k)] En0 Hv0 fun ac2 wo3 bk1 En4 Hv5 => ?_
 refine d_e [1,2,4] [] En4 fun ac6 En7 => ?_
 refine then_normal ?_
 refine wp_seq ?_
 refine region_from ?_
 refine f_o ?_
 refine m_l 0 En7 Hv5 fun ac8 En9 => ?_
 refine f_o ?_
 refine c_p En9 Hv5 (word_go _ k (by first | assumption | omega)) fun ac14 wo11 En15 Hv16 => ?_
 refine d_k [1,2,4,7] [] 3 En15 fun ac17 En18 => ?_
 rcases Bool.eq_false_or_eq_true (wordB k) with hb19 | hb19
 ·
  have En20 := En18.fx (t := 7) (congrArg Value.bool hb19)
  have hp21 : wordB k = true := hb19
  refine f_o ?_
  refine m_l 0 En20 Hv16 fun ac22 En23 => ?_
  refine d_k [1,2,4,11] [(4, g_v (show (.bool (!(ByteArray.toList (bstr k) == ByteArray.toList (bstr [116]))) : Value) = .bool (!(k == [116])) by rw [Go.Dbr.bstr_eq k [116]] <;> rfl))] 7 En23 fun ac24 En25 => ?_
  rcases Bool.eq_false_or_eq_true (!(k == [116])) with hb26 | hb26
  ·
   have En27 := En25.fx (t := 11) (congrArg Value.bool hb26)
   have hp28 : k ≠ [116] := by simpa using hb26
   refine f_o ?_
   refine m_l 0 En27 Hv16 fun ac29 En30 => ?_
   refine d_k [1,2,4,15] [(8, g_v (show (.bool (!(ByteArray.toList (bstr k) == ByteArray.toList (bstr [101, 118]))) : Value) = .bool (!(k == [101, 118])) by rw [Go.Dbr.bstr_eq k [101, 118]] <;> rfl))] 11 En30 fun ac31 En32 => ?_
   rcases Bool.eq_false_or_eq_true (!(k == [101, 118])) with hb33 | hb33
   ·
    have En34 := En32.fx (t := 15) (congrArg Value.bool hb33)
    have hp35 : k ≠ [101, 118] := by simpa using hb33
    refine d_k [4,15,16,17] [] 13 En34 fun ac36 En37 => ?_
    refine f_o ?_
    refine c_l [0] (M := [.box bk1 [.string (bstr k)] 9]) En37 Hv16 (fun hM38 => contf_go _ bk1 k al cl xs (il.go Hv16 [0] (by kernel_rfl) (fun _ h => ⟨h.1, h.2.1, h.2.2.1, h.2.2.2.1, h.2.2.2.2⟩)) hM38) ?_
    rintro _ wo39 ⟨rfl, he40⟩
    refine ⟨_, _, [.box bk1 [.string (bstr k)] 9], rfl, he40, by kernel_rfl, fun ac42 En43 Hv44 => ?_⟩
    refine d_e [4] [] En43 fun ac45 En46 => ?_
    refine then_normal ?_
    refine wp_ret ?_
    refine d_ret1 (t := 4) (v := .bool (!(hasK k xs))) En46 (by kernel_rfl) (by kernel_rfl) ?_
    refine ⟨congrArg (fun z => Ending.returned (Value.bool z)) ?_, Hv44.pick [] (by kernel_rfl) (by decide)⟩
    unfold keyB; simp_all
   ·
    have En47 := En32.fx (t := 15) (congrArg Value.bool hb33)
    have hp48 : ¬ (k ≠ [101, 118]) := by simpa using hb33
    refine d_e [4] [] En47 fun ac49 En50 => ?_
    refine then_normal ?_
    refine wp_ret ?_
    refine d_ret1 (t := 4) (v := .bool false) En50 (by kernel_rfl) (by kernel_rfl) ?_
    refine ⟨congrArg (fun z => Ending.returned (Value.bool z)) ?_, Hv16.pick [] (by kernel_rfl) (by decide)⟩
    unfold keyB; simp_all
  ·
   have En51 := En25.fx (t := 11) (congrArg Value.bool hb26)
   have hp52 : ¬ (k ≠ [116]) := by simpa using hb26
   refine d_e [4] [] En51 fun ac53 En54 => ?_
   refine then_normal ?_
   refine wp_ret ?_
   refine d_ret1 (t := 4) (v := .bool false) En54 (by kernel_rfl) (by kernel_rfl) ?_
   refine ⟨congrArg (fun z => Ending.returned (Value.bool z)) ?_, Hv16.pick [] (by kernel_rfl) (by decide)⟩
   unfold keyB; simp_all
 ·
  have En55 := En18.fx (t := 7) (congrArg Value.bool hb19)
  have hp56 : ¬ (wordB k = true) := Bool.eq_false_iff.1 hb19
  refine d_e [4] [] En55 fun ac57 En58 => ?_
  refine then_normal ?_
  refine wp_ret ?_
  refine d_ret1 (t := 4) (v := .bool false) En58 (by kernel_rfl) (by kernel_rfl) ?_
  refine ⟨congrArg (fun z => Ending.returned (Value.bool z)) ?_, Hv16.pick [] (by kernel_rfl) (by decide)⟩
  unfold keyB; simp_all

theorem maykey_go (w : World) (k : Bs) (hk : List.length k ≤ 140737488351232) (m0 : Nat) (al : Option Addr) (cl : Nat) (xs : List RPair) (il : InS fPair 48 (fun y : RPair => ((List.length y.1 ≤ 140737488351232) ∧ (True ∧ (True ∧ ((List.length y.2.2.2.1 ≤ 140737488351232) ∧ (True)))))) w [] al cl xs) (em : m0 = List.length xs) : Calls Tryd.prog 31 #[.string (bstr k), .slice al m0 cl] w fun e w' => e = .returned (.bool (keyB k xs)) ∧ Ev w [] w' [] := by
 subst em
 refine d_0 [(0, .string (bstr k)), (1, .slice al (List.length xs) cl)] 32 Go.Proofs.Tryd.func31 Go.Proofs.Tryd.ntmps31 (Heap.nil _) fun act0 En0 Hv0 => ?_
 refine wp_seq ?_
 refine d_r [0,1,4] [] En0 fun ac1 En2 => ?_
 refine then_normal ?_
 refine wp_seq ?_
 refine region_from ?_
 refine d_k [0,1,4,7] [] 1 En2 fun ac3 En4 => ?_
 refine f_o ?_
 refine c_p En4 Hv0 (dword_go _ k (by first | assumption | omega)) fun ac9 wo6 En10 Hv11 => ?_
 refine d_e [0,1,4,5] [] En10 fun ac12 En13 => ?_
 refine then_normal ?_
 refine wp_seq ?_
 refine wp_seq ?_
 refine region_from ?_
 refine d_k [0,1,4,11] [] 3 En13 fun ac14 En15 => ?_
 rcases Bool.eq_false_or_eq_true (!(wordB k)) with hb16 | hb16
 ·
  have En17 := En15.fx (t := 11) (congrArg Value.bool hb16)
  have hp18 : ¬ (wordB k = true) := by simpa using hb16
  refine d_e [0,1,4,18] [] En17 fun ac19 En20 => ?_
  refine then_normal ?_
  refine c_t En20 ?_
  refine wp_seq ?_
  refine d_r [0,1,4] [] En20 fun ac21 En22 => ?_
  refine then_normal ?_
  refine wp_ret ?_
  refine then_ret ?_
  refine d_ret1 (t := 4) (v := .bool false) En22 (by kernel_rfl) (by kernel_rfl) ?_
  refine ⟨congrArg (fun z => Ending.returned (Value.bool z)) ?_, Hv11.pick [] (by kernel_rfl) (by decide)⟩
  unfold keyB; simp_all
 ·
  have En23 := En15.fx (t := 11) (congrArg Value.bool hb16)
  have hp24 : wordB k = true := by simpa using hb16
  refine d_k [0,1,4,15] [(4, g_v (show (.bool (ByteArray.toList (bstr k) == ByteArray.toList (bstr [116])) : Value) = .bool (k == [116]) by rw [Go.Dbr.bstr_eq k [116]] <;> rfl))] 7 En23 fun ac25 En26 => ?_
  rcases Bool.eq_false_or_eq_true (k == [116]) with hb27 | hb27
  ·
   have En28 := En26.fx (t := 15) (congrArg Value.bool hb27)
   have hp29 : k = [116] := eq_of_beq hb27
   refine d_e [0,1,4,18] [] En28 fun ac30 En31 => ?_
   refine then_normal ?_
   refine c_t En31 ?_
   refine wp_seq ?_
   refine d_r [0,1,4] [] En31 fun ac32 En33 => ?_
   refine then_normal ?_
   refine wp_ret ?_
   refine then_ret ?_
   refine d_ret1 (t := 4) (v := .bool false) En33 (by kernel_rfl) (by kernel_rfl) ?_
   refine ⟨congrArg (fun z => Ending.returned (Value.bool z)) ?_, Hv11.pick [] (by kernel_rfl) (by decide)⟩
   unfold keyB; simp_all
  ·
   have En34 := En26.fx (t := 15) (congrArg Value.bool hb27)
   have hp35 : ¬ (k = [116]) := ne_of_beq_false hb27
   refine d_e [0,1,4,18] [(8, g_v (show (.bool (ByteArray.toList (bstr k) == ByteArray.toList (bstr [101, 118])) : Value) = .bool (k == [101, 118]) by rw [Go.Dbr.bstr_eq k [101, 118]] <;> rfl))] En34 fun ac36 En37 => ?_
   refine then_normal ?_
   refine cond_at En37 (t := k == [101, 118]) (by kernel_rfl) (fun hc38 => ?_) (fun hc38 => ?_)
   ·
    replace hc38 : k = [101, 118] := eq_of_beq hc38
    refine wp_seq ?_
    refine d_r [0,1,4] [] En37 fun ac39 En40 => ?_
    refine then_normal ?_
    refine wp_ret ?_
    refine then_ret ?_
    refine d_ret1 (t := 4) (v := .bool false) En40 (by kernel_rfl) (by kernel_rfl) ?_
    refine ⟨congrArg (fun z => Ending.returned (Value.bool z)) ?_, Hv11.pick [] (by kernel_rfl) (by decide)⟩
    unfold keyB; simp_all
   ·
    replace hc38 : ¬ (k = [101, 118]) := ne_of_beq_false hc38
    refine wp_skip ?_
    refine then_normal ?_
    refine wp_seq ?_
    refine wp_seq ?_
    refine d_r [0,1,4,6] [] En37 fun ac41 En42 => ?_
    refine then_normal ?_
    refine wp_block ?_
    refine loop_m (fun ms43 ac wo => ∃ (i : Nat), ms43 = (List.length xs - i : Nat) ∧ Env ac 32 [(0, .string (bstr k)), (1, .slice al (List.length xs) cl), (6, ni i)] ∧ Ev w [] wo [] ∧ (i ≤ List.length xs) ∧ (fdN k xs = i + fdN k (List.drop i xs))) ⟨_, 0, rfl, En42.sub (by kernel_rfl), Hv11.pick [] (by kernel_rfl) (by decide), (Nat.zero_le _), (by rw [List.drop_zero, Nat.zero_add])⟩ ?_
    rintro mm49 ac45 wo46 ⟨i, rfl, En47, Hv48, hil, hfi⟩
    refine wp_seq ?_
    refine wp_seq ?_
    have hzl := il.small
    refine d_r [0,1,6,22] [] En47 fun ac50 En51 => ?_
    refine then_normal ?_
    refine c_d (((i : Nat) : Int) < ((List.length xs : Nat) : Int)) En51 (fun hc52 => ?_) (fun hc52 => ?_)
    ·
     refine wp_skip ?_
     refine then_normal ?_
     refine wp_seq ?_
     refine wp_block ?_
     refine wp_seq ?_
     have hb55 : i < List.length xs := (by omega)
     obtain ⟨adr53, had54⟩ := some_of il.nz hb55
     have hb56 : i < List.length xs := by omega
     obtain ⟨⟨x58a, x58b, x58c, x58d, _⟩, hx57⟩ : ∃ x, (xs)[i]? = some x := ⟨_, List.getElem?_eq_getElem hb56⟩
     obtain ⟨s_x58a, _, _, s_x58d, _⟩ := il.each _ (List.mem_of_getElem? hx57)
     replace s_x58a : (List.length x58a ≤ 140737488351232) := s_x58a
     replace s_x58d : (List.length x58d ≤ 140737488351232) := s_x58d
     refine region_from ?_
     refine d_k [0,1,6,25,26] [] 2 En51 fun ac59 En60 => ?_
     refine f_o ?_
     refine q_v (x := Instr.indexAt 23 (.slice al (List.length xs) cl) (ni i)) (v := .pointer (some (Addr.add adr53 (i * 4)))) En60 (Go.Dbr.run_indexsl (e := 35) (sz := 4) (j := i) (jo := i * 4) had54 (by kernel_rfl) (by kernel_rfl) (by omega) hb55 rfl _) fun ac61 En62 => ?_
     refine d_k [0,1,6,28] [] 4 En62 fun ac63 En64 => ?_
     refine f_o ?_
     refine op_loadf (d := some 29) (t := 9) (ad := adr53) (ao := al) (ys := List.flatMap fPair xs) (o := i * 4) (v := .string (bstr x58a)) En64 (by kernel_rfl) rfl (il.ro.ev Hv48).reads had54 ((flat_get (sz := 4) (j := 0) (fun _ _ => rfl) hx57 (by decide)).trans rfl) (by kernel_rfl) ?_
     intro ac65 En66
     refine d_e [0,1,6,31] [(6, g_v (show (.bool (ByteArray.toList (bstr x58a) == ByteArray.toList (bstr k)) : Value) = .bool (x58a == k) by rw [Go.Dbr.bstr_eq x58a k] <;> rfl))] En66 fun ac67 En68 => ?_
     refine then_normal ?_
     refine cond_at En68 (t := x58a == k) (by kernel_rfl) (fun hc69 => ?_) (fun hc69 => ?_)
     ·
      replace hc69 : x58a = k := eq_of_beq hc69
      refine wp_seq ?_
      refine d_r [0,1,4,6] [] En68 fun ac70 En71 => ?_
      refine then_normal ?_
      refine wp_ret ?_
      refine block_ret ?_
      refine then_ret ?_
      refine then_ret ?_
      refine block_ret ?_
      refine then_ret ?_
      refine d_ret1 (t := 4) (v := .bool false) En71 (by kernel_rfl) (by kernel_rfl) ?_
      refine ⟨congrArg (fun z => Ending.returned (Value.bool z)) ?_, Hv48.pick [] (by kernel_rfl) (by decide)⟩
      have hN := fd_hit hfi hx57 (by assumption); have hq : hasK k xs = true := has_y (by rw [hN]; omega); unfold keyB; simp_all
     ·
      replace hc69 : ¬ (x58a = k) := ne_of_beq_false hc69
      refine wp_skip ?_
      refine block_normal ?_
      refine then_normal ?_
      refine d_r [0,1,6] [(1, g_n (w_a i 1))] En68 fun ac72 En73 => ?_
      refine then_normal ?_
      refine ⟨_, ⟨i + 1, rfl, En73.sub (by kernel_rfl), Hv48.pick [] (by kernel_rfl) (by decide), (by omega), (fd_go hfi hx57 (by assumption))⟩, ?_⟩
      omega
    ·
     refine wp_exit ?_
     refine then_exit ?_
     refine then_exit ?_
     refine block_exit ?_
     refine then_normal ?_
     refine wp_seq ?_
     refine d_r [0,1,4,6] [] En51 fun ac74 En75 => ?_
     refine then_normal ?_
     refine wp_ret ?_
     refine d_ret1 (t := 4) (v := .bool true) En75 (by kernel_rfl) (by kernel_rfl) ?_
     refine ⟨congrArg (fun z => Ending.returned (Value.bool z)) ?_, Hv48.pick [] (by kernel_rfl) (by decide)⟩
     have hq := has_n (fd_end hfi (by omega)); unfold keyB; simp_all

end Go.Proofs.YtfcfgbejpcmmkaaDoor
