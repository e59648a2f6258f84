import Derived.Test.YtofecellbfhnjaaBk9
import Derived.Test.YtofecellbfhnjaaBk7
import Derived.Test.YtofecellbfhnjaaBk6
/- Layer 17: extensions, requests, tickets, certificates are written by the program. -/


namespace Go.Proofs.Ytofecellbfhnjaa
open Go.Dbr
set_option maxRecDepth 100000
set_option maxHeartbeats 2000000
set_option linter.unusedVariables false
set_option linter.unusedSimpArgs false

def exF (p : WS) (x : EX) : WS := (wput 2 (p.1 ++ beN 2 x.1.toNat) x.2, wbad 2 0 65535 x.2.length p.2)
def wexF (p : WS) (ps : List EX) : WS := (wput 2 p.1 (allM exF ps).1, wbad 2 0 16777215 (allM exF ps).1.length ((p.2 || dupA ps) || (allM exF ps).2))
theorem exF_len (p : WS) (x : EX) : p.1.length ≤ (exF p x).1.length := by rw [exF, wput_len, List.length_append]; omega
theorem fold_mono {β : Type} {F : WS → β → WS} (h : ∀ p x, p.1.length ≤ (F p x).1.length) : ∀ (ps : List β) (p : WS), p.1.length ≤ (List.foldl F p ps).1.length
  | [], _ => Nat.le_refl _
  | x :: r, p => Nat.le_trans (h p x) (fold_mono h r (F p x))
theorem allM_mono {β : Type} {F : WS → β → WS} (h : ∀ p x, p.1.length ≤ (F p x).1.length) (ps : List β) (i : Nat) : (allM F (List.take i ps)).1.length ≤ (allM F ps).1.length := by
  have e : allM F ps = List.foldl F (allM F (List.take i ps)) (List.drop i ps) := by
    rw [allM, allM, ← List.foldl_append, List.take_append_drop]
  rw [e]
  exact fold_mono h _ _
def crF (p : WS) (x : CE) : WS := wexF (wput 3 p.1 x.1, wbad 3 1 16777215 x.1.length p.2) x.2
def certF (p : WS) (x : Bs × List CE) : WS := (wput 3 (wput 1 p.1 x.1) (allM crF x.2).1, wbad 3 0 16777215 (allM crF x.2).1.length (wbad 1 0 255 x.1.length p.2 || (allM crF x.2).2))
def certP (x : Bs × List CE) : Bs := doneL (certF ([], false) x).2 (certF ([], false) x).1

theorem wext_go (w : World) (bw : Nat) (a : Option Addr) (c : Nat) (l : Bs) (bad : Bool) (g : UInt16) (ab : Option Addr) (cb : Nat) (b : Bs) (ib : InB w [.box bw [.slice a (List.length l) c, .bool bad] 115, .vec a c 1 (bys l) 5] ab cb b) (hb : List.length l + 4 + List.length b ≤ 200000000000000) (hH : Heap w [.box bw [.slice a (List.length l) c, .bool bad] 115, .vec a c 1 (bys l) 5]) : Calls Try.prog 208 #[pt bw, .agg #[uv16 g, .slice ab (List.length b) cb]] w fun e w' => ∃ a' c', e = .returned (.tuple #[]) ∧ Ev w [.box bw [.slice a (List.length l) c, .bool bad] 115, .vec a c 1 (bys l) 5] w' [.box bw [.slice a' (List.length ((exF (l, bad) (g, b)).1)) c', .bool ((exF (l, bad) (g, b)).2)] 115, .vec a' c' 1 (bys ((exF (l, bad) (g, b)).1)) 5] := by
 have hbs := ib.small
 have hl1 : List.length (u16F (l, bad) g).1 = List.length l + 2 := by rw [u16F, List.length_append, beN_len]
 refine d_0 [(0, pt bw), (1, .agg #[uv16 g, .slice ab (List.length b) cb])] 12 Go.Proofs.Try.func208 Go.Proofs.Try.ntmps208 (hH) fun act0 En0 Hv0 => ?_
 refine wp_seq ?_
 refine region_from ?_
 refine f_o ?_
 refine m_m 147 [uv16 g, .slice ab (List.length b) cb] En0 Hv0 fun ac2 wo3 bk1 En4 Hv5 => ?_
 refine f_e ?_
 refine then_normal ?_
 refine wp_seq ?_
 refine region_from ?_
 refine d_k [0,3,4,5] [] 2 En4 fun ac6 En7 => ?_
 refine f_o ?_
 refine m_l 2 En7 Hv5 fun ac8 En9 => ?_
 refine f_o ?_
 refine c_l [0,1] (M := [.box bw [.slice a (List.length l) c, .bool bad] 115, .vec a c 1 (bys l) 5]) En9 Hv5 (fun hM12 => wu16_go _ bw a c l bad g (by first | omega | (simp only [wput_len, beN_len, List.length_nil, List.length_append]; omega) | (simp [wput_len, beN_len]; done) | (simp [wput_len, beN_len]; omega)) hM12) ?_
 rintro _ wo13 ⟨wa10, wc11, rfl, he14⟩
 refine ⟨_, _, [.box bw [.slice wa10 (List.length ((u16F (l, bad) g).1)) wc11, .bool ((u16F (l, bad) g).2)] 115, .vec wa10 wc11 1 (bys ((u16F (l, bad) g).1)) 5, .box bk1 [uv16 g, .slice ab (List.length b) cb] 147], rfl, he14, by kernel_rfl, fun ac16 En17 Hv18 => ?_⟩
 refine f_e ?_
 refine then_normal ?_
 refine region_from ?_
 refine d_k [0,3,8,9] [] 2 En17 fun ac19 En20 => ?_
 refine f_o ?_
 refine m_l 2 En20 Hv18 fun ac21 En22 => ?_
 refine f_o ?_
 refine c_l [0,1] (M := [.box bw [.slice wa10 (List.length ((u16F (l, bad) g).1)) wc11, .bool ((u16F (l, bad) g).2)] 115, .vec wa10 wc11 1 (bys ((u16F (l, bad) g).1)) 5]) En22 Hv18 (fun hM25 => wlist_go _ bw wa10 wc11 ((u16F (l, bad) g).1) ((u16F (l, bad) g).2) 2 (by omega) 0 65535 (by omega) (by omega) ab cb b ((ib.ev Hv18).pick [0, 1] (by kernel_rfl)) (by first | omega | (simp only [wput_len, beN_len, List.length_nil, List.length_append]; omega) | (simp [wput_len, beN_len]; done) | (simp [wput_len, beN_len]; omega)) hM25) ?_
 rintro _ wo26 ⟨wa23, wc24, rfl, he27⟩
 refine ⟨_, _, [.box bw [.slice wa23 (List.length (wput 2 ((u16F (l, bad) g).1) b)) wc24, .bool (wbad 2 0 65535 (List.length b) ((u16F (l, bad) g).2))] 115, .vec wa23 wc24 1 (bys (wput 2 ((u16F (l, bad) g).1) b)) 5, .box bk1 [uv16 g, .slice ab (List.length b) cb] 147], rfl, he27, by kernel_rfl, fun ac29 En30 Hv31 => ?_⟩
 refine f_e ?_
 refine d_end0 En30 (by kernel_rfl) ?_
 exact ⟨wa23, wc24, rfl, Hv31.pk [0, 1]⟩

theorem all_ext (w : World) (bw : Nat) (a : Option Addr) (c : Nat) (l : Bs) (bad : Bool) (n : Nat) (hn : n ≤ 4) (x : Nat) (hx : x ≤ 4294967295) (al : Option Addr) (cl : Nat) (xs : List RExt) (il : InS fExt 32 (fun y : RExt => (True ∧ (InB w [.box bw [.slice a (List.length l) c, .bool bad] 115, .vec a c 1 (bys l) 5] y.2.1.a y.2.1.c y.2.1.l ∧ (True)))) w [.box bw [.slice a (List.length l) c, .bool bad] 115, .vec a c 1 (bys l) 5] al cl xs) (hfb : ∀ i, i ≤ List.length xs → List.length (allM exF (List.take i (List.map (fun y : RExt => (y.1, y.2.1.l)) xs))).1 ≤ 140737489403904) (hb : List.length l + n + List.length (allM exF (List.map (fun y : RExt => (y.1, y.2.1.l)) xs)).1 ≤ 200000000000000) (hH : Heap w [.box bw [.slice a (List.length l) c, .bool bad] 115, .vec a c 1 (bys l) 5]) : Calls Try.prog 207 #[pt bw, ni n, ni x, .slice al (List.length xs) cl, .func (.func 208) #[] #[]] w fun e w' => ∃ a' c', e = .returned (.tuple #[]) ∧ Ev w [.box bw [.slice a (List.length l) c, .bool bad] 115, .vec a c 1 (bys l) 5] w' [.box bw [.slice a' (List.length (wput n l (allM exF (List.map (fun y : RExt => (y.1, y.2.1.l)) xs)).1)) c', .bool (wbad n x 16777215 (List.length (allM exF (List.map (fun y : RExt => (y.1, y.2.1.l)) xs)).1) (bad || (allM exF (List.map (fun y : RExt => (y.1, y.2.1.l)) xs)).2))] 115, .vec a' c' 1 (bys (wput n l (allM exF (List.map (fun y : RExt => (y.1, y.2.1.l)) xs)).1)) 5] := by
 have hxs := il.small
 have hxc := il.cap
 refine d_0 [(0, pt bw), (1, ni n), (2, ni x), (3, .slice al (List.length xs) cl), (4, .func (.func 208) #[] #[])] 47 Go.Proofs.Try.func207 Go.Proofs.Try.ntmps207 (hH) fun act0 En0 Hv0 => ?_
 refine wp_seq ?_
 refine region_from ?_
 refine d_k [0,1,2,3,4,13] [] 1 En0 fun ac1 En2 => ?_
 refine f_o ?_
 refine m_m 115 [.slice none 0 0, .bool false] En2 Hv0 fun ac4 wo5 bk3 En6 Hv7 => ?_
 refine d_e [0,1,2,3,4,10] [] En6 fun ac8 En9 => ?_
 refine then_normal ?_
 refine wp_seq ?_
 refine wp_seq ?_
 refine d_r [0,1,2,4,10,15,16,17] [] En9 fun ac10 En11 => ?_
 refine then_normal ?_
 refine wp_block ?_
 have Hv12 : Ev w [.box bw [.slice a (List.length l) c, .bool bad] 115, .vec a c 1 (bys l) 5] wo5 [.box bw [.slice a (List.length l) c, .bool bad] 115, .vec a c 1 (bys l) 5, .box bk3 [.slice none 0 0, .bool false] 115, .vec none 0 1 (bys []) 5] := Ev.nil (sz := 1) (T := 5) Hv7
 refine loop_m (fun ms13 ac wo => ∃ (i : Nat) (wa : Option Addr) (wc : Nat) (m : Bs) (bd : Bool), ms13 = (List.length xs + 1 - i : Nat) ∧ Env ac 47 [(0, pt bw), (1, ni n), (2, ni x), (4, .func (.func 208) #[] #[]), (10, pt bk3), (15, .slice al (List.length xs) cl), (16, .int .i64 ((List.length xs : Nat) : Int)), (17, ni i)] ∧ Ev w [.box bw [.slice a (List.length l) c, .bool bad] 115, .vec a c 1 (bys l) 5] wo [.box bw [.slice a (List.length l) c, .bool bad] 115, .vec a c 1 (bys l) 5, .box bk3 [.slice wa (List.length m) wc, .bool bd] 115, .vec wa wc 1 (bys m) 5] ∧ ((m, bd) = allM exF (List.take i (List.map (fun y : RExt => (y.1, y.2.1.l)) xs)))) ⟨_, 0, none, 0, [], false, rfl, En11.sb, Hv12.pk [0, 1, 2, 3], rfl⟩ ?_
 rintro mm19 ac15 wo16 ⟨i, wa, wc, m, bd, rfl, En17, Hv18, hfo⟩
 refine wp_seq ?_
 refine d_r [0,1,2,4,10,15,16,17,18] [] En17 fun ac20 En21 => ?_
 refine then_normal ?_
 refine wp_seq ?_
 refine c_d (((i : Nat) : Int) < ((List.length xs : Nat) : Int)) En21 (fun hc22 => ?_) (fun hc22 => ?_)
 ·
  refine wp_skip ?_
  refine then_normal ?_
  refine wp_seq ?_
  refine wp_block ?_
  refine wp_seq ?_
  have hb25 : i < List.length xs := (by omega)
  obtain ⟨adr23, had24⟩ := some_of il.nz hb25
  have hb26 : i < List.length xs := by omega
  obtain ⟨⟨x28a, ⟨a_x28b, c_x28b, x28b⟩, _⟩, hx27⟩ : ∃ x, (xs)[i]? = some x := ⟨_, List.getElem?_eq_getElem hb26⟩
  obtain ⟨_, i_x28b, _⟩ := il.each _ (List.mem_of_getElem? hx27)
  replace i_x28b : InB w [.box bw [.slice a (List.length l) c, .bool bad] 115, .vec a c 1 (bys l) 5] a_x28b c_x28b x28b := i_x28b
  refine region_from ?_
  refine f_o ?_
  refine q_v (x := Instr.indexAt 36 (.slice al (List.length xs) cl) (ni i)) (v := .pointer (some (Addr.add adr23 (i * 2)))) En21 (Go.Dbr.run_indexsl (e := 147) (sz := 2) (j := i) (jo := i * 2) had24 (by kernel_rfl) (by kernel_rfl) (by omega) hb25 rfl _) fun ac29 En30 => ?_
  refine f_o ?_
  refine op_loadaggat (d := some 20) (t := 147) (ad := adr23) (ao := al) (ys := List.flatMap fExt xs) (o := i * 2) (m := 2) (xs := [uv16 x28a, .slice a_x28b (List.length x28b) c_x28b]) En30 (by kernel_rfl) rfl (il.ro.ev Hv18).reads had24 (fun j hj => ?_) rfl (by kernel_rfl) (by kernel_rfl) ?_
  ·
   exact flat_sub (sz := 2) (off := 0) (m := 2) (fun _ _ => rfl) hx27 (by decide) rfl j hj
  intro ac31 En32
  refine f_o ?_
  refine m_z 147 [.int .u16 0, .slice none 0 0] En32 Hv18 fun ac34 wo35 bk33 En36 Hv37 => ?_
  refine f_o ?_
  refine m_g 4 0 2 [uv16 x28a, .slice a_x28b (List.length x28b) c_x28b] [uv16 x28a, .slice a_x28b (List.length x28b) c_x28b] [.box bw [.slice a (List.length l) c, .bool bad] 115, .vec a c 1 (bys l) 5, .box bk3 [.slice wa (List.length m) wc, .bool bd] 115, .vec wa wc 1 (bys m) 5, .box bk33 [uv16 x28a, .slice a_x28b (List.length x28b) c_x28b] 147] En36 Hv37 rfl rfl (by simp) (one_all (by kernel_rfl)) rfl rfl fun ac38 wo39 En40 Hv41 => ?_
  refine f_e ?_
  refine then_normal ?_
  have hnb := hfb (i + 1) (by omega)
  rw [allM_take hx27, ← hfo] at hnb
  have hnc := hnb
  simp only [exF, wput_len, List.length_append, beN_len] at hnc
  refine region_from ?_
  refine d_k [0,1,2,4,10,12,15,16,17,21,22] [] 2 En40 fun ac42 En43 => ?_
  refine f_o ?_
  refine m_a 4 0 2 [uv16 x28a, .slice a_x28b (List.length x28b) c_x28b] En43 Hv41 rfl rfl rfl fun ac44 En45 => ?_
  refine f_o ?_
  refine c_l [2,3] (M := [.box bk3 [.slice wa (List.length m) wc, .bool bd] 115, .vec wa wc 1 (bys m) 5]) En45 Hv41 (fun hM48 => wext_go _ bk3 wa wc m bd x28a a_x28b c_x28b x28b ((i_x28b.ev Hv41).pick [2, 3] (by kernel_rfl)) (by first | omega | (simp only [wput_len, beN_len, List.length_nil, List.length_append]; omega) | (simp [wput_len, beN_len]; done) | (simp [wput_len, beN_len]; omega)) hM48) ?_
  rintro _ wo49 ⟨wa46, wc47, rfl, he50⟩
  refine ⟨_, _, [.box bk3 [.slice wa46 (List.length ((exF (m, bd) (x28a, x28b)).1)) wc47, .bool ((exF (m, bd) (x28a, x28b)).2)] 115, .vec wa46 wc47 1 (bys ((exF (m, bd) (x28a, x28b)).1)) 5, .box bw [.slice a (List.length l) c, .bool bad] 115, .vec a c 1 (bys l) 5, .box bk33 [uv16 x28a, .slice a_x28b (List.length x28b) c_x28b] 147], rfl, he50, by kernel_rfl, fun ac52 En53 Hv54 => ?_⟩
  refine f_e ?_
  refine block_normal ?_
  refine then_normal ?_
  refine d_r [0,1,2,4,10,12,15,16,17] [(0, g_n (w_a i 1))] En53 fun ac55 En56 => ?_
  refine then_normal ?_
  refine ⟨_, ⟨i + 1, wa46, wc47, ((exF (m, bd) (x28a, x28b)).1), ((exF (m, bd) (x28a, x28b)).2), rfl, En56.sb, Hv54.pk [2, 3, 0, 1], (by rw [allM_take hx27, ← hfo] <;> rfl)⟩, ?_⟩
  omega
 ·
  refine wp_exit ?_
  refine then_exit ?_
  refine then_exit ?_
  refine block_exit ?_
  refine then_normal ?_
  refine wp_seq ?_
  have hfe := allM_all (F := exF) (f := (fun y : RExt => (y.1, y.2.1.l))) (xs := xs) (i := i) (by omega)
  rw [← hfo] at hfe
  refine region_cut (F := fun ac wo => ∃ (b2 : Bool), Env ac 47 [(0, pt bw), (1, ni n), (2, ni x), (4, .func (.func 208) #[] #[]), (10, pt bk3), (15, .slice al (List.length xs) cl), (16, .int .i64 ((List.length xs : Nat) : Int)), (17, ni i)] ∧ Ev w [.box bw [.slice a (List.length l) c, .bool bad] 115, .vec a c 1 (bys l) 5] wo [.box bw [.slice a (List.length l) c, .bool b2] 115, .vec a c 1 (bys l) 5, .box bk3 [.slice wa (List.length m) wc, .bool bd] 115, .vec wa wc 1 (bys m) 5] ∧ (b2 = (bad || bd))) ?_ ?_
  ·
   refine region_from ?_
   refine d_k [0,1,2,4,10,15,16,17,26,29] [] 4 En21 fun ac57 En58 => ?_
   refine f_o ?_
   refine m_l 0 En58 Hv18 fun ac59 En60 => ?_
   refine d_k [0,1,2,4,10,15,16,17,26,31] [] 6 En60 fun ac61 En62 => ?_
   rcases Bool.eq_false_or_eq_true (bad) with hb63 | hb63
   ·
    have En64 := En62.fx (t := 31) (congrArg Value.bool hb63)
    have hp65 : bad = true := hb63
    refine d_k [0,1,2,4,10,15,16,17,36,38] [] 13 En64 fun ac66 En67 => ?_
    refine f_o ?_
    refine m_s 0 [.box bw [.slice a (List.length l) c, .bool true] 115, .vec a c 1 (bys l) 5, .box bk3 [.slice wa (List.length m) wc, .bool bd] 115, .vec wa wc 1 (bys m) 5] En67 Hv18 fun ac68 wo69 En70 Hv71 => ?_
    refine f_e ?_
    exact ⟨rfl, ⟨true, En70.sb, Hv71.pk [0, 1, 2, 3], (by first | exact or_t (by assumption) | exact or_f (by assumption))⟩⟩
   ·
    have En72 := En62.fx (t := 31) (congrArg Value.bool hb63)
    have hp73 : ¬ (bad = true) := Bool.eq_false_iff.1 hb63
    refine d_k [0,1,2,4,10,15,16,17,26,31,34] [] 9 En72 fun ac74 En75 => ?_
    refine f_o ?_
    refine m_l 2 En75 Hv18 fun ac76 En77 => ?_
    refine d_k [0,1,2,4,10,15,16,17,36,38] [] 13 En77 fun ac78 En79 => ?_
    refine f_o ?_
    refine m_s 0 [.box bw [.slice a (List.length l) c, .bool bd] 115, .vec a c 1 (bys l) 5, .box bk3 [.slice wa (List.length m) wc, .bool bd] 115, .vec wa wc 1 (bys m) 5] En79 Hv18 fun ac80 wo81 En82 Hv83 => ?_
    refine f_e ?_
    exact ⟨rfl, ⟨bd, En82.sb, Hv83.pk [0, 1, 2, 3], (by first | exact or_t (by assumption) | exact or_f (by assumption))⟩⟩
  ·
   rintro ac84 wo85 ⟨b2, En86, Hv87, hb2⟩
   refine then_normal ?_
   have hml := hfb (List.length xs) (Nat.le_refl _)
   rw [List.take_of_length_le (by rw [List.length_map]; exact Nat.le_refl _), ← hfe] at hml
   rw [← hfe] at hb
   refine region_from ?_
   refine d_k [0,4,10,15,16,17,39,40,41,44] [] 6 En86 fun ac88 En89 => ?_
   refine f_o ?_
   refine m_l 2 En89 Hv87 fun ac90 En91 => ?_
   refine f_o ?_
   refine c_l [0,1] (M := [.box bw [.slice a (List.length l) c, .bool b2] 115, .vec a c 1 (bys l) 5]) En91 Hv87 (fun hM94 => wlist_go _ bw a c l b2 n (by omega) x 16777215 (by omega) (by omega) wa wc m (bys_in Hv87.heap (k := 3) rfl [0, 1] (by kernel_rfl) rfl (by first | omega | (simp; done) | (simp; omega))) (by first | exact hb | omega) hM94) ?_
   rintro _ wo95 ⟨wa92, wc93, rfl, he96⟩
   refine ⟨_, _, [.box bw [.slice wa92 (List.length (wput n l m)) wc93, .bool (wbad n x 16777215 (List.length m) b2)] 115, .vec wa92 wc93 1 (bys (wput n l m)) 5, .box bk3 [.slice wa (List.length m) wc, .bool bd] 115, .vec wa wc 1 (bys m) 5], rfl, he96, by kernel_rfl, fun ac98 En99 Hv100 => ?_⟩
   refine f_e ?_
   refine d_end0 En99 (by kernel_rfl) ?_
   subst hb2
   rw [← hfe]
   exact ⟨wa92, wc93, rfl, Hv100.pk [0, 1]⟩

theorem wexts1_go (w : World) (tb : Nat) (t g : UInt16) (a2 : Option Addr) (n2 c2 : Nat) (ab : Option Addr) (cb : Nat) (b : Bs) (ib : InB w [.box tb [uv16 t, .slice a2 n2 c2] 147] ab cb b) (hH : Heap w [.box tb [uv16 t, .slice a2 n2 c2] 147]) : Calls Try.prog 206 #[.agg #[uv16 g, .slice ab (List.length b) cb], pt tb] w fun e w' => e = .returned (.bool (((UInt16.toNat g : Nat) : Int) == ((UInt16.toNat t : Nat) : Int))) ∧ Ev w [.box tb [uv16 t, .slice a2 n2 c2] 147] w' [.box tb [uv16 t, .slice a2 n2 c2] 147] := by
 refine d_0 [(0, .agg #[uv16 g, .slice ab (List.length b) cb]), (1, pt tb)] 9 Go.Proofs.Try.func206 Go.Proofs.Try.ntmps206 (hH) fun act0 En0 Hv0 => ?_
 refine wp_seq ?_
 refine region_from ?_
 refine f_o ?_
 refine m_m 147 [uv16 g, .slice ab (List.length b) cb] En0 Hv0 fun ac2 wo3 bk1 En4 Hv5 => ?_
 refine d_e [1,2,3] [] En4 fun ac6 En7 => ?_
 refine then_normal ?_
 refine wp_seq ?_
 refine region_from ?_
 refine d_k [1,3,4] [] 1 En7 fun ac8 En9 => ?_
 refine f_o ?_
 refine m_l 1 En9 Hv5 fun ac10 En11 => ?_
 refine d_k [3,5,6] [] 3 En11 fun ac12 En13 => ?_
 refine f_o ?_
 refine m_l 0 En13 Hv5 fun ac14 En15 => ?_
 refine d_e [3] [] En15 fun ac16 En17 => ?_
 refine then_normal ?_
 refine wp_ret ?_
 refine d_ret1 (t := 3) (v := .bool (((UInt16.toNat g : Nat) : Int) == ((UInt16.toNat t : Nat) : Int))) En17 (by kernel_rfl) (by kernel_rfl) ?_
 exact ⟨rfl, Hv5.pk [0]⟩

theorem windexe_go (w : World) (tb : Nat) (t : UInt16) (a2 : Option Addr) (n2 c2 : Nat) (al : Option Addr) (cl : Nat) (xs : List RExt) (il : InS fExt 32 (fun y : RExt => (True ∧ (InB w [.box tb [uv16 t, .slice a2 n2 c2] 147] y.2.1.a y.2.1.c y.2.1.l ∧ (True)))) w [.box tb [uv16 t, .slice a2 n2 c2] 147] al cl xs) (hH : Heap w [.box tb [uv16 t, .slice a2 n2 c2] 147]) : Calls Try.prog 133 #[.slice al (List.length xs) cl, .func (.func 206) #[] #[pt tb]] w fun e w' => e = .returned (.int .i64 (fdI t (List.map (fun y : RExt => (y.1, y.2.1.l)) xs))) ∧ Ev w [.box tb [uv16 t, .slice a2 n2 c2] 147] w' [.box tb [uv16 t, .slice a2 n2 c2] 147] := by
 refine d_0 [(0, .slice al (List.length xs) cl), (1, .func (.func 206) #[] #[pt tb])] 19 Go.Proofs.Try.func133 Go.Proofs.Try.ntmps133 (hH) fun act0 En0 Hv0 => ?_
 refine wp_seq ?_
 refine d_r [0,1,4] [] En0 fun ac1 En2 => ?_
 refine then_normal ?_
 refine wp_seq ?_
 refine wp_seq ?_
 refine d_r [0,1,4,7,8] [] En2 fun ac3 En4 => ?_
 refine then_normal ?_
 refine wp_block ?_
 refine loop_m (fun ms5 ac wo => ∃ (i : Nat), ms5 = (List.length xs + 1 - i : Nat) ∧ Env ac 19 [(0, .slice al (List.length xs) cl), (1, .func (.func 206) #[] #[pt tb]), (7, .int .i64 ((List.length xs : Nat) : Int)), (8, ni i)] ∧ Ev w [.box tb [uv16 t, .slice a2 n2 c2] 147] wo [.box tb [uv16 t, .slice a2 n2 c2] 147] ∧ (fdN t (List.map (fun y : RExt => (y.1, y.2.1.l)) xs) = i + fdN t (List.drop i (List.map (fun y : RExt => (y.1, y.2.1.l)) xs)))) ⟨_, 0, rfl, En4.sb, Hv0.pk [0], (by rw [List.drop_zero, Nat.zero_add])⟩ ?_
 rintro mm11 ac7 wo8 ⟨i, rfl, En9, Hv10, hfi⟩
 refine wp_seq ?_
 refine d_r [0,1,7,8,9] [] En9 fun ac12 En13 => ?_
 refine then_normal ?_
 refine wp_seq ?_
 refine c_d (((i : Nat) : Int) < ((List.length xs : Nat) : Int)) En13 (fun hc14 => ?_) (fun hc14 => ?_)
 ·
  refine wp_skip ?_
  refine then_normal ?_
  refine wp_seq ?_
  refine wp_block ?_
  refine wp_seq ?_
  refine d_r [0,1,5,7,8] [] En13 fun ac15 En16 => ?_
  refine then_normal ?_
  refine wp_seq ?_
  have hzl := il.small
  have hb19 : i < List.length xs := (by omega)
  obtain ⟨adr17, had18⟩ := some_of il.nz hb19
  have hb20 : i < List.length xs := by omega
  obtain ⟨⟨x22a, ⟨a_x22b, c_x22b, x22b⟩, _⟩, hx21⟩ : ∃ x, (xs)[i]? = some x := ⟨_, List.getElem?_eq_getElem hb20⟩
  obtain ⟨_, i_x22b, _⟩ := il.each _ (List.mem_of_getElem? hx21)
  replace i_x22b : InB w [.box tb [uv16 t, .slice a2 n2 c2] 147] a_x22b c_x22b x22b := i_x22b
  refine region_from ?_
  refine d_k [0,1,5,7,8,11,12,13] [] 3 En16 fun ac23 En24 => ?_
  refine f_o ?_
  refine q_v (x := Instr.indexAt 36 (.slice al (List.length xs) cl) (ni i)) (v := .pointer (some (Addr.add adr17 (i * 2)))) En24 (Go.Dbr.run_indexsl (e := 147) (sz := 2) (j := i) (jo := i * 2) had18 (by kernel_rfl) (by kernel_rfl) (by omega) hb19 rfl _) fun ac25 En26 => ?_
  refine f_o ?_
  refine op_loadaggat (d := some 15) (t := 147) (ad := adr17) (ao := al) (ys := List.flatMap fExt xs) (o := i * 2) (m := 2) (xs := [uv16 x22a, .slice a_x22b (List.length x22b) c_x22b]) En26 (by kernel_rfl) rfl (il.ro.ev Hv10).reads had18 (fun j hj => ?_) rfl (by kernel_rfl) (by kernel_rfl) ?_
  ·
   exact flat_sub (sz := 2) (off := 0) (m := 2) (fun _ _ => rfl) hx21 (by decide) rfl j hj
  intro ac27 En28
  refine f_o ?_
  refine c_l [0] (M := [.box tb [uv16 t, .slice a2 n2 c2] 147]) En28 Hv10 (fun hM29 => wexts1_go _ tb t x22a a2 n2 c2 a_x22b c_x22b x22b ((i_x22b.ev Hv10).pick [0] (by kernel_rfl)) hM29) ?_
  rintro _ wo30 ⟨rfl, he31⟩
  refine ⟨_, _, [.box tb [uv16 t, .slice a2 n2 c2] 147], rfl, he31, by kernel_rfl, fun ac33 En34 Hv35 => ?_⟩
  refine f_e ?_
  refine then_normal ?_
  refine cond_at En34 (t := ((UInt16.toNat x22a : Nat) : Int) == ((UInt16.toNat t : Nat) : Int)) (by kernel_rfl) (fun hc36 => ?_) (fun hc36 => ?_)
  ·
   replace hc36 : ((UInt16.toNat x22a : Nat) : Int) = ((UInt16.toNat t : Nat) : Int) := eq_of_beq hc36
   refine wp_seq ?_
   refine d_r [0,1,4,5,7,8] [] En34 fun ac37 En38 => ?_
   refine then_normal ?_
   refine wp_ret ?_
   refine block_ret ?_
   refine then_ret ?_
   refine then_ret ?_
   refine block_ret ?_
   refine then_ret ?_
   refine d_ret1 (t := 4) (v := ni i) En38 (by kernel_rfl) (by kernel_rfl) ?_
   obtain ⟨hN, hP⟩ := fd_hit (f := (fun y : RExt => (y.1, y.2.1.l))) hfi hx21 (u16_eq (by assumption))
   have hL : fdN t (List.map (fun y : RExt => (y.1, y.2.1.l)) xs) < List.length (List.map (fun y : RExt => (y.1, y.2.1.l)) xs) := by rw [hN, List.length_map]; omega
   exact ⟨congrArg (fun z => Ending.returned (Value.int .i64 z)) (by rw [fdI_y hL, hN]), Hv35.pk [0]⟩
  ·
   replace hc36 : ¬ (((UInt16.toNat x22a : Nat) : Int) = ((UInt16.toNat t : Nat) : Int)) := ne_of_beq_false hc36
   refine wp_skip ?_
   refine block_normal ?_
   refine then_normal ?_
   refine d_r [0,1,5,7,8] [(0, g_n (w_a i 1))] En34 fun ac39 En40 => ?_
   refine then_normal ?_
   refine ⟨_, ⟨i + 1, rfl, En40.sb, Hv35.pk [0], (fd_go hfi hx21 (fun g => absurd (congrArg (fun z : UInt16 => ((UInt16.toNat z : Nat) : Int)) g) (by assumption)))⟩, ?_⟩
   omega
 ·
  refine wp_exit ?_
  refine then_exit ?_
  refine then_exit ?_
  refine block_exit ?_
  refine then_normal ?_
  refine wp_seq ?_
  refine d_r [0,1,4,7,8] [] En13 fun ac41 En42 => ?_
  refine then_normal ?_
  refine wp_ret ?_
  refine d_ret1 (t := 4) (v := .int .i64 (-1)) En42 (by kernel_rfl) (by kernel_rfl) ?_
  exact ⟨congrArg (fun z => Ending.returned (Value.int .i64 z)) (fdI_n (fd_end hfi (by omega))).symm, Hv10.pk [0]⟩

theorem wcontf_go (w : World) (tb : Nat) (t : UInt16) (a2 : Option Addr) (n2 c2 : Nat) (n : Nat) (al : Option Addr) (cl : Nat) (xs : List RExt) (il : InS fExt 32 (fun y : RExt => (True ∧ (InB w [.box tb [uv16 t, .slice a2 n2 c2] 147] y.2.1.a y.2.1.c y.2.1.l ∧ (True)))) w [.box tb [uv16 t, .slice a2 n2 c2] 147] al cl xs) (en : n = List.length xs) (hH : Heap w [.box tb [uv16 t, .slice a2 n2 c2] 147]) : Calls Try.prog 205 #[.slice al n cl, .func (.func 206) #[] #[pt tb]] w fun e w' => e = .returned (.bool (hasE t (List.map (fun y : RExt => (y.1, y.2.1.l)) xs))) ∧ Ev w [.box tb [uv16 t, .slice a2 n2 c2] 147] w' [.box tb [uv16 t, .slice a2 n2 c2] 147] := by
 subst en
 refine d_0 [(0, .slice al (List.length xs) cl), (1, .func (.func 206) #[] #[pt tb])] 9 Go.Proofs.Try.func205 Go.Proofs.Try.ntmps205 (hH) fun act0 En0 Hv0 => ?_
 refine d_s [0,1,4] [] En0 fun ac1 En2 => ?_
 refine wp_seq ?_
 refine region_from ?_
 refine d_k [4,5,6] [] 2 En2 fun ac3 En4 => ?_
 refine f_o ?_
 refine c_l [0] (M := [.box tb [uv16 t, .slice a2 n2 c2] 147]) En4 Hv0 (fun hM5 => windexe_go _ tb t a2 n2 c2 al cl xs (il.go Hv0 [0] (by kernel_rfl) (fun _ h => ⟨h.1, (InB.ev h.2.1 Hv0).pick [0] (by kernel_rfl), h.2.2⟩)) hM5) ?_
 rintro _ wo6 ⟨rfl, he7⟩
 refine ⟨_, _, [.box tb [uv16 t, .slice a2 n2 c2] 147], rfl, he7, by kernel_rfl, fun ac9 En10 Hv11 => ?_⟩
 refine d_e [4] [(3, g_v (show (.bool (decide (fdI t (List.map (fun y : RExt => (y.1, y.2.1.l)) xs) ≥ (0 : Int))) : Value) = .bool (hasE t (List.map (fun y : RExt => (y.1, y.2.1.l)) xs)) by rw [fdI_ge t (List.map (fun y : RExt => (y.1, y.2.1.l)) xs)] <;> rfl))] En10 fun ac12 En13 => ?_
 refine then_normal ?_
 refine wp_ret ?_
 refine d_ret1 (t := 4) (v := .bool (hasE t (List.map (fun y : RExt => (y.1, y.2.1.l)) xs))) En13 (by kernel_rfl) (by kernel_rfl) ?_
 exact ⟨rfl, Hv11.pk [0]⟩

theorem wexts_go (w : World) (bw : Nat) (a : Option Addr) (c : Nat) (l : Bs) (bad : Bool) (al : Option Addr) (cl : Nat) (xs : List RExt) (il : InS fExt 32 (fun y : RExt => (True ∧ (InB w [.box bw [.slice a (List.length l) c, .bool bad] 115, .vec a c 1 (bys l) 5] y.2.1.a y.2.1.c y.2.1.l ∧ (True)))) w [.box bw [.slice a (List.length l) c, .bool bad] 115, .vec a c 1 (bys l) 5] al cl xs) (hq0 : List.length (allM exF (List.map (fun y : RExt => (y.1, y.2.1.l)) xs)).1 ≤ 140737489403904) (hb : List.length l + 2 + List.length (allM exF (List.map (fun y : RExt => (y.1, y.2.1.l)) xs)).1 ≤ 200000000000000) (hH : Heap w [.box bw [.slice a (List.length l) c, .bool bad] 115, .vec a c 1 (bys l) 5]) : Calls Try.prog 179 #[pt bw, .slice al (List.length xs) cl] w fun e w' => ∃ a' c', e = .returned (.tuple #[]) ∧ Ev w [.box bw [.slice a (List.length l) c, .bool bad] 115, .vec a c 1 (bys l) 5] w' [.box bw [.slice a' (List.length ((wexF (l, bad) (List.map (fun y : RExt => (y.1, y.2.1.l)) xs)).1)) c', .bool ((wexF (l, bad) (List.map (fun y : RExt => (y.1, y.2.1.l)) xs)).2)] 115, .vec a' c' 1 (bys ((wexF (l, bad) (List.map (fun y : RExt => (y.1, y.2.1.l)) xs)).1)) 5] := by
 refine d_0 [(0, pt bw), (1, .slice al (List.length xs) cl)] 31 Go.Proofs.Try.func179 Go.Proofs.Try.ntmps179 (hH) fun act0 En0 Hv0 => ?_
 refine wp_seq ?_
 refine wp_seq ?_
 refine d_r [0,1,6,7,8] [] En0 fun ac1 En2 => ?_
 refine then_normal ?_
 refine wp_block ?_
 refine loop_m (fun ms3 ac wo => ∃ (i : Nat) (od : Bool), ms3 = (List.length xs - i : Nat) ∧ Env ac 31 [(0, pt bw), (1, .slice al (List.length xs) cl), (6, .slice al (List.length xs) cl), (7, .int .i64 ((List.length xs : Nat) : Int)), (8, ni i)] ∧ Ev w [.box bw [.slice a (List.length l) c, .bool bad] 115, .vec a c 1 (bys l) 5] wo [.box bw [.slice a (List.length l) c, .bool od] 115, .vec a c 1 (bys l) 5] ∧ (i ≤ List.length xs) ∧ (od = (bad || dupN (List.map (fun y : RExt => (y.1, y.2.1.l)) xs) i))) ⟨_, 0, bad, rfl, En2.sb, Hv0.pk [0, 1], (Nat.zero_le _), (by rw [dupN, Bool.or_false])⟩ ?_
 rintro mm9 ac5 wo6 ⟨i, od, rfl, En7, Hv8, hil, hod⟩
 refine wp_seq ?_
 have hzl := il.small
 have hzc := il.cap
 refine d_r [0,1,6,7,8,9] [] En7 fun ac10 En11 => ?_
 refine then_normal ?_
 refine wp_seq ?_
 refine c_d (((i : Nat) : Int) < ((List.length xs : Nat) : Int)) En11 (fun hc12 => ?_) (fun hc12 => ?_)
 ·
  refine wp_skip ?_
  refine then_normal ?_
  refine wp_seq ?_
  refine wp_block ?_
  refine wp_seq ?_
  have hb15 : i < List.length xs := (by omega)
  obtain ⟨adr13, had14⟩ := some_of il.nz hb15
  have hb16 : i < List.length xs := by omega
  obtain ⟨⟨x18a, ⟨a_x18b, c_x18b, x18b⟩, _⟩, hx17⟩ : ∃ x, (xs)[i]? = some x := ⟨_, List.getElem?_eq_getElem hb16⟩
  obtain ⟨_, i_x18b, _⟩ := il.each _ (List.mem_of_getElem? hx17)
  replace i_x18b : InB w [.box bw [.slice a (List.length l) c, .bool bad] 115, .vec a c 1 (bys l) 5] a_x18b c_x18b x18b := i_x18b
  refine region_from ?_
  refine d_k [0,1,6,7,8,10] [] 1 En11 fun ac19 En20 => ?_
  refine f_o ?_
  refine q_v (x := Instr.indexAt 36 (.slice al (List.length xs) cl) (ni i)) (v := .pointer (some (Addr.add adr13 (i * 2)))) En20 (Go.Dbr.run_indexsl (e := 147) (sz := 2) (j := i) (jo := i * 2) had14 (by kernel_rfl) (by kernel_rfl) (by omega) hb15 rfl _) fun ac21 En22 => ?_
  refine f_o ?_
  refine op_loadaggat (d := some 12) (t := 147) (ad := adr13) (ao := al) (ys := List.flatMap fExt xs) (o := i * 2) (m := 2) (xs := [uv16 x18a, .slice a_x18b (List.length x18b) c_x18b]) En22 (by kernel_rfl) rfl (il.ro.ev Hv8).reads had14 (fun j hj => ?_) rfl (by kernel_rfl) (by kernel_rfl) ?_
  ·
   exact flat_sub (sz := 2) (off := 0) (m := 2) (fun _ _ => rfl) hx17 (by decide) rfl j hj
  intro ac23 En24
  refine f_o ?_
  refine m_z 147 [.int .u16 0, .slice none 0 0] En24 Hv8 fun ac26 wo27 bk25 En28 Hv29 => ?_
  refine d_k [0,1,4,5,6,7,8,12] [] 5 En28 fun ac30 En31 => ?_
  refine f_o ?_
  refine m_g 2 0 2 [uv16 x18a, .slice a_x18b (List.length x18b) c_x18b] [uv16 x18a, .slice a_x18b (List.length x18b) c_x18b] [.box bw [.slice a (List.length l) c, .bool od] 115, .vec a c 1 (bys l) 5, .box bk25 [uv16 x18a, .slice a_x18b (List.length x18b) c_x18b] 147] En31 Hv29 rfl rfl (by simp) (one_all (by kernel_rfl)) rfl rfl fun ac32 wo33 En34 Hv35 => ?_
  refine f_e ?_
  refine then_normal ?_
  refine region_from ?_
  refine d_k [0,1,4,5,6,7,8,13,16] [] 4 En34 fun ac36 En37 => ?_
  refine f_o ?_
  refine m_l 0 En37 Hv35 fun ac38 En39 => ?_
  refine d_k [0,1,4,5,6,7,8,13,18] [] 6 En39 fun ac40 En41 => ?_
  rcases Bool.eq_false_or_eq_true (od) with hb42 | hb42
  ·
   have En43 := En41.fx (t := 18) (congrArg Value.bool hb42)
   have hp44 : od = true := hb42
   refine d_k [0,1,5,6,7,8,24,26] [] 14 En43 fun ac45 En46 => ?_
   refine f_o ?_
   refine m_s 0 [.box bw [.slice a (List.length l) c, .bool true] 115, .vec a c 1 (bys l) 5, .box bk25 [uv16 x18a, .slice a_x18b (List.length x18b) c_x18b] 147] En46 Hv35 fun ac47 wo48 En49 Hv50 => ?_
   refine f_e ?_
   refine block_normal ?_
   refine then_normal ?_
   refine d_r [0,1,5,6,7,8] [(0, g_n (w_a i 1))] En49 fun ac51 En52 => ?_
   refine then_normal ?_
   refine ⟨_, ⟨i + 1, true, rfl, En52.sb, Hv50.pk [0, 1], (by omega), (dup_t (show (List.map (fun y : RExt => (y.1, y.2.1.l)) xs)[i]? = some ((fun y : RExt => (y.1, y.2.1.l)) (x18a, ⟨a_x18b, c_x18b, x18b⟩, ())) from by rw [List.getElem?_map, hx17]; rfl) hod hp44)⟩, ?_⟩
   omega
  ·
   have En53 := En41.fx (t := 18) (congrArg Value.bool hb42)
   have hp54 : ¬ (od = true) := Bool.eq_false_iff.1 hb42
   refine d_k [0,1,5,6,7,8,13,18,19,20] [] 8 En53 fun ac55 En56 => ?_
   refine f_o ?_
   refine op_slice0 (d := some 21) (t := 36) (e := 147) (sz := 2) (len := List.length xs) (cap := cl) (hi := i) (ao := al) (lov := none) (hiv := (some (ni i))) En56 (by kernel_rfl) (by kernel_rfl) (by kernel_rfl) (by omega) (.inl ⟨rfl, rfl⟩) (.inr ⟨.i64, rfl⟩) ?_
   intro ac57 En58
   refine d_k [0,1,5,6,7,8,13,18,21,22] [] 10 En58 fun ac59 En60 => ?_
   refine f_o ?_
   refine c_l [2] (M := [.box bk25 [uv16 x18a, .slice a_x18b (List.length x18b) c_x18b] 147]) En60 Hv35 (fun hM61 => wcontf_go _ bk25 x18a a_x18b (List.length x18b) c_x18b i al cl (List.take i xs) ((il.go Hv35 [2] (by kernel_rfl) (fun _ h => ⟨h.1, (InB.ev h.2.1 Hv35).pick [2] (by kernel_rfl), h.2.2⟩)).take i) (by rw [List.length_take]; omega) hM61) ?_
   rintro _ wo62 ⟨rfl, he63⟩
   refine ⟨_, _, [.box bk25 [uv16 x18a, .slice a_x18b (List.length x18b) c_x18b] 147, .box bw [.slice a (List.length l) c, .bool od] 115, .vec a c 1 (bys l) 5], rfl, he63, by kernel_rfl, fun ac65 En66 Hv67 => ?_⟩
   refine d_k [0,1,5,6,7,8,24,26] [] 14 En66 fun ac68 En69 => ?_
   refine f_o ?_
   refine m_s 1 [.box bk25 [uv16 x18a, .slice a_x18b (List.length x18b) c_x18b] 147, .box bw [.slice a (List.length l) c, .bool (hasE x18a (List.map (fun y : RExt => (y.1, y.2.1.l)) (List.take i xs)))] 115, .vec a c 1 (bys l) 5] En69 Hv67 fun ac70 wo71 En72 Hv73 => ?_
   refine f_e ?_
   refine block_normal ?_
   refine then_normal ?_
   refine d_r [0,1,5,6,7,8] [(0, g_n (w_a i 1))] En72 fun ac74 En75 => ?_
   refine then_normal ?_
   refine ⟨_, ⟨i + 1, hasE x18a (List.map (fun y : RExt => (y.1, y.2.1.l)) (List.take i xs)), rfl, En75.sb, Hv73.pk [1, 2], (by omega), (by rw [List.map_take]; exact dup_f (show (List.map (fun y : RExt => (y.1, y.2.1.l)) xs)[i]? = some ((fun y : RExt => (y.1, y.2.1.l)) (x18a, ⟨a_x18b, c_x18b, x18b⟩, ())) from by rw [List.getElem?_map, hx17]; rfl) hod hp54)⟩, ?_⟩
   omega
 ·
  refine wp_exit ?_
  refine then_exit ?_
  refine then_exit ?_
  refine block_exit ?_
  refine then_normal ?_
  have hfo := dup_all hod (by rw [List.length_map]; omega)
  subst hfo
  refine region_from ?_
  refine d_k [0,1,6,7,8,28,29] [] 2 En11 fun ac76 En77 => ?_
  refine f_o ?_
  refine c_l [0,1] (M := [.box bw [.slice a (List.length l) c, .bool (bad || dupA (List.map (fun y : RExt => (y.1, y.2.1.l)) xs))] 115, .vec a c 1 (bys l) 5]) En77 Hv8 (fun hM80 => all_ext _ bw a c l (bad || dupA (List.map (fun y : RExt => (y.1, y.2.1.l)) xs)) 2 (by omega) 0 (by omega) al cl xs (il.go Hv8 [0, 1] (by kernel_rfl) (fun _ h => ⟨h.1, (InB.ev h.2.1 Hv8).pick [0, 1] (by kernel_rfl), h.2.2⟩)) (fun i _ => Nat.le_trans (allM_mono exF_len _ i) hq0) (by omega) hM80) ?_
  rintro _ wo81 ⟨wa78, wc79, rfl, he82⟩
  refine ⟨_, _, [.box bw [.slice wa78 (List.length (wput 2 l (allM exF (List.map (fun y : RExt => (y.1, y.2.1.l)) xs)).1)) wc79, .bool (wbad 2 0 16777215 (List.length (allM exF (List.map (fun y : RExt => (y.1, y.2.1.l)) xs)).1) ((bad || dupA (List.map (fun y : RExt => (y.1, y.2.1.l)) xs)) || (allM exF (List.map (fun y : RExt => (y.1, y.2.1.l)) xs)).2))] 115, .vec wa78 wc79 1 (bys (wput 2 l (allM exF (List.map (fun y : RExt => (y.1, y.2.1.l)) xs)).1)) 5], rfl, he82, by kernel_rfl, fun ac84 En85 Hv86 => ?_⟩
  refine f_e ?_
  refine d_end0 En85 (by kernel_rfl) ?_
  exact ⟨wa78, wc79, rfl, Hv86.pk [0, 1]⟩

end Go.Proofs.Ytofecellbfhnjaa

/- Layer 17: messages with extensions are written by the document. -/


namespace Go.Proofs.Ytofecellbfhnjaa
open Go.Dbr
set_option maxRecDepth 100000
set_option maxHeartbeats 2000000
set_option linter.unusedVariables false
set_option linter.unusedSimpArgs false

end Go.Proofs.Ytofecellbfhnjaa

/- Layer 17: messages with extensions are written by the program. -/

namespace Go.Proofs.Ytofecellbfhnjaa
open Go.Dbr
set_option maxRecDepth 100000
set_option maxHeartbeats 2000000
set_option linter.unusedVariables false
set_option linter.unusedSimpArgs false

theorem wcer_go (w : World) (bw : Nat) (a : Option Addr) (c : Nat) (l : Bs) (bad : Bool) (ab : Option Addr) (cb : Nat) (b : Bs) (ib : InB w [.box bw [.slice a (List.length l) c, .bool bad] 115, .vec a c 1 (bys l) 5] ab cb b) (al : Option Addr) (cl : Nat) (xs : List RExt) (il : InS fExt 32 (fun y : RExt => (True ∧ (InB w [.box bw [.slice a (List.length l) c, .bool bad] 115, .vec a c 1 (bys l) 5] y.2.1.a y.2.1.c y.2.1.l ∧ (True)))) w [.box bw [.slice a (List.length l) c, .bool bad] 115, .vec a c 1 (bys l) 5] al cl xs) (hq0 : List.length (allM exF (List.map (fun y : RExt => (y.1, y.2.1.l)) xs)).1 ≤ 140737489403904) (hb : List.length l + 5 + List.length b + List.length (allM exF (List.map (fun y : RExt => (y.1, y.2.1.l)) xs)).1 ≤ 200000000000000) (hH : Heap w [.box bw [.slice a (List.length l) c, .bool bad] 115, .vec a c 1 (bys l) 5]) : Calls Try.prog 197 #[pt bw, .agg #[.slice ab (List.length b) cb, .slice al (List.length xs) cl]] w fun e w' => ∃ a' c', e = .returned (.tuple #[]) ∧ Ev w [.box bw [.slice a (List.length l) c, .bool bad] 115, .vec a c 1 (bys l) 5] w' [.box bw [.slice a' (List.length ((crF (l, bad) (b, (List.map (fun y : RExt => (y.1, y.2.1.l)) xs))).1)) c', .bool ((crF (l, bad) (b, (List.map (fun y : RExt => (y.1, y.2.1.l)) xs))).2)] 115, .vec a' c' 1 (bys ((crF (l, bad) (b, (List.map (fun y : RExt => (y.1, y.2.1.l)) xs))).1)) 5] := by
 have hbs := ib.small
 refine d_0 [(0, pt bw), (1, .agg #[.slice ab (List.length b) cb, .slice al (List.length xs) cl])] 12 Go.Proofs.Try.func197 Go.Proofs.Try.ntmps197 (hH) fun act0 En0 Hv0 => ?_
 refine wp_seq ?_
 refine region_from ?_
 refine f_o ?_
 refine m_m 196 [.slice ab (List.length b) cb, .slice al (List.length xs) cl] En0 Hv0 fun ac2 wo3 bk1 En4 Hv5 => ?_
 refine f_e ?_
 refine then_normal ?_
 refine wp_seq ?_
 refine region_from ?_
 refine d_k [0,3,4,5] [] 2 En4 fun ac6 En7 => ?_
 refine f_o ?_
 refine m_l 2 En7 Hv5 fun ac8 En9 => ?_
 refine f_o ?_
 refine c_l [0,1] (M := [.box bw [.slice a (List.length l) c, .bool bad] 115, .vec a c 1 (bys l) 5]) En9 Hv5 (fun hM12 => wlist_go _ bw a c l bad 3 (by omega) 1 16777215 (by omega) (by omega) ab cb b ((ib.ev Hv5).pick [0, 1] (by kernel_rfl)) (by first | omega | (simp only [u16F, beN_len, List.length_nil, List.length_append]; omega) | (simp only [wput_len, beN_len, List.length_nil, List.length_append]; omega) | (simp [wput_len, beN_len]; done) | (simp [wput_len, beN_len]; omega)) hM12) ?_
 rintro _ wo13 ⟨wa10, wc11, rfl, he14⟩
 refine ⟨_, _, [.box bw [.slice wa10 (List.length (wput 3 l b)) wc11, .bool (wbad 3 1 16777215 (List.length b) bad)] 115, .vec wa10 wc11 1 (bys (wput 3 l b)) 5, .box bk1 [.slice ab (List.length b) cb, .slice al (List.length xs) cl] 196], rfl, he14, by kernel_rfl, fun ac16 En17 Hv18 => ?_⟩
 refine f_e ?_
 refine then_normal ?_
 refine region_from ?_
 refine d_k [0,3,8,9] [] 2 En17 fun ac19 En20 => ?_
 refine f_o ?_
 refine m_l 2 En20 Hv18 fun ac21 En22 => ?_
 refine f_o ?_
 refine c_l [0,1] (M := [.box bw [.slice wa10 (List.length (wput 3 l b)) wc11, .bool (wbad 3 1 16777215 (List.length b) bad)] 115, .vec wa10 wc11 1 (bys (wput 3 l b)) 5]) En22 Hv18 (fun hM25 => wexts_go _ bw wa10 wc11 (wput 3 l b) (wbad 3 1 16777215 (List.length b) bad) al cl xs (il.go Hv18 [0, 1] (by kernel_rfl) (fun _ h => ⟨h.1, (InB.ev h.2.1 Hv18).pick [0, 1] (by kernel_rfl), h.2.2⟩)) (by omega) (by first | omega | (simp only [u16F, beN_len, List.length_nil, List.length_append]; omega) | (simp only [wput_len, beN_len, List.length_nil, List.length_append]; omega) | (simp [wput_len, beN_len]; done) | (simp [wput_len, beN_len]; omega)) hM25) ?_
 rintro _ wo26 ⟨wa23, wc24, rfl, he27⟩
 refine ⟨_, _, [.box bw [.slice wa23 (List.length ((wexF (wput 3 l b, wbad 3 1 16777215 (List.length b) bad) (List.map (fun y : RExt => (y.1, y.2.1.l)) xs)).1)) wc24, .bool ((wexF (wput 3 l b, wbad 3 1 16777215 (List.length b) bad) (List.map (fun y : RExt => (y.1, y.2.1.l)) xs)).2)] 115, .vec wa23 wc24 1 (bys ((wexF (wput 3 l b, wbad 3 1 16777215 (List.length b) bad) (List.map (fun y : RExt => (y.1, y.2.1.l)) xs)).1)) 5, .box bk1 [.slice ab (List.length b) cb, .slice al (List.length xs) cl] 196], rfl, he27, by kernel_rfl, fun ac29 En30 Hv31 => ?_⟩
 refine f_e ?_
 refine d_end0 En30 (by kernel_rfl) ?_
 exact ⟨wa23, wc24, rfl, Hv31.pk [0, 1]⟩

theorem all_cer (w : World) (bw : Nat) (a : Option Addr) (c : Nat) (l : Bs) (bad : Bool) (n : Nat) (hn : n ≤ 4) (x : Nat) (hx : x ≤ 4294967295) (al : Option Addr) (cl : Nat) (xs : List RCer) (il : InS fCer 48 (fun y : RCer => (InB w [.box bw [.slice a (List.length l) c, .bool bad] 115, .vec a c 1 (bys l) 5] y.1.a y.1.c y.1.l ∧ (InS (fun p : (UInt16) × (Sl UInt8) × Unit => (fun n : UInt16 => [uv16 n]) p.1 ++ (fun p : (Sl UInt8) × Unit => (fun s : Sl UInt8 => s.f) p.1 ++ (fun _ : Unit => []) p.2) p.2) 32 (fun x : (UInt16) × (Sl UInt8) × Unit => (True ∧ (InB w [.box bw [.slice a (List.length l) c, .bool bad] 115, .vec a c 1 (bys l) 5] x.2.1.a x.2.1.c x.2.1.l ∧ (True)))) w [.box bw [.slice a (List.length l) c, .bool bad] 115, .vec a c 1 (bys l) 5] y.2.1.a y.2.1.c y.2.1.l ∧ (True)))) w [.box bw [.slice a (List.length l) c, .bool bad] 115, .vec a c 1 (bys l) 5] al cl xs) (hfb : ∀ i, i ≤ List.length xs → List.length (allM crF (List.take i (List.map (fun y : RCer => (y.1.l, List.map (fun y : RExt => (y.1, y.2.1.l)) y.2.1.l)) xs))).1 ≤ 140737489403904) (hb : List.length l + n + List.length (allM crF (List.map (fun y : RCer => (y.1.l, List.map (fun y : RExt => (y.1, y.2.1.l)) y.2.1.l)) xs)).1 ≤ 200000000000000) (hH : Heap w [.box bw [.slice a (List.length l) c, .bool bad] 115, .vec a c 1 (bys l) 5]) : Calls Try.prog 196 #[pt bw, ni n, ni x, .slice al (List.length xs) cl, .func (.func 197) #[] #[]] w fun e w' => ∃ a' c', e = .returned (.tuple #[]) ∧ Ev w [.box bw [.slice a (List.length l) c, .bool bad] 115, .vec a c 1 (bys l) 5] w' [.box bw [.slice a' (List.length (wput n l (allM crF (List.map (fun y : RCer => (y.1.l, List.map (fun y : RExt => (y.1, y.2.1.l)) y.2.1.l)) xs)).1)) c', .bool (wbad n x 16777215 (List.length (allM crF (List.map (fun y : RCer => (y.1.l, List.map (fun y : RExt => (y.1, y.2.1.l)) y.2.1.l)) xs)).1) (bad || (allM crF (List.map (fun y : RCer => (y.1.l, List.map (fun y : RExt => (y.1, y.2.1.l)) y.2.1.l)) xs)).2))] 115, .vec a' c' 1 (bys (wput n l (allM crF (List.map (fun y : RCer => (y.1.l, List.map (fun y : RExt => (y.1, y.2.1.l)) y.2.1.l)) xs)).1)) 5] := by
 have hxs := il.small
 have hxc := il.cap
 refine d_0 [(0, pt bw), (1, ni n), (2, ni x), (3, .slice al (List.length xs) cl), (4, .func (.func 197) #[] #[])] 47 Go.Proofs.Try.func196 Go.Proofs.Try.ntmps196 (hH) fun act0 En0 Hv0 => ?_
 refine wp_seq ?_
 refine region_from ?_
 refine d_k [0,1,2,3,4,13] [] 1 En0 fun ac1 En2 => ?_
 refine f_o ?_
 refine m_m 115 [.slice none 0 0, .bool false] En2 Hv0 fun ac4 wo5 bk3 En6 Hv7 => ?_
 refine d_e [0,1,2,3,4,10] [] En6 fun ac8 En9 => ?_
 refine then_normal ?_
 refine wp_seq ?_
 refine wp_seq ?_
 refine d_r [0,1,2,4,10,15,16,17] [] En9 fun ac10 En11 => ?_
 refine then_normal ?_
 refine wp_block ?_
 have Hv12 : Ev w [.box bw [.slice a (List.length l) c, .bool bad] 115, .vec a c 1 (bys l) 5] wo5 [.box bw [.slice a (List.length l) c, .bool bad] 115, .vec a c 1 (bys l) 5, .box bk3 [.slice none 0 0, .bool false] 115, .vec none 0 1 (bys []) 5] := Ev.nil (sz := 1) (T := 5) Hv7
 refine loop_m (fun ms13 ac wo => ∃ (i : Nat) (wa : Option Addr) (wc : Nat) (m : Bs) (bd : Bool), ms13 = (List.length xs + 1 - i : Nat) ∧ Env ac 47 [(0, pt bw), (1, ni n), (2, ni x), (4, .func (.func 197) #[] #[]), (10, pt bk3), (15, .slice al (List.length xs) cl), (16, .int .i64 ((List.length xs : Nat) : Int)), (17, ni i)] ∧ Ev w [.box bw [.slice a (List.length l) c, .bool bad] 115, .vec a c 1 (bys l) 5] wo [.box bw [.slice a (List.length l) c, .bool bad] 115, .vec a c 1 (bys l) 5, .box bk3 [.slice wa (List.length m) wc, .bool bd] 115, .vec wa wc 1 (bys m) 5] ∧ ((m, bd) = allM crF (List.take i (List.map (fun y : RCer => (y.1.l, List.map (fun y : RExt => (y.1, y.2.1.l)) y.2.1.l)) xs)))) ⟨_, 0, none, 0, [], false, rfl, En11.sb, Hv12.pk [0, 1, 2, 3], rfl⟩ ?_
 rintro mm19 ac15 wo16 ⟨i, wa, wc, m, bd, rfl, En17, Hv18, hfo⟩
 refine wp_seq ?_
 refine d_r [0,1,2,4,10,15,16,17,18] [] En17 fun ac20 En21 => ?_
 refine then_normal ?_
 refine wp_seq ?_
 refine c_d (((i : Nat) : Int) < ((List.length xs : Nat) : Int)) En21 (fun hc22 => ?_) (fun hc22 => ?_)
 ·
  refine wp_skip ?_
  refine then_normal ?_
  refine wp_seq ?_
  refine wp_block ?_
  refine wp_seq ?_
  have hb25 : i < List.length xs := (by omega)
  obtain ⟨adr23, had24⟩ := some_of il.nz hb25
  have hb26 : i < List.length xs := by omega
  obtain ⟨⟨⟨a_x28a, c_x28a, x28a⟩, ⟨a_x28b, c_x28b, x28b⟩, _⟩, hx27⟩ : ∃ x, (xs)[i]? = some x := ⟨_, List.getElem?_eq_getElem hb26⟩
  obtain ⟨i_x28a, i_x28b, _⟩ := il.each _ (List.mem_of_getElem? hx27)
  replace i_x28a : InB w [.box bw [.slice a (List.length l) c, .bool bad] 115, .vec a c 1 (bys l) 5] a_x28a c_x28a x28a := i_x28a
  replace i_x28b : InS (fun p : (UInt16) × (Sl UInt8) × Unit => (fun n : UInt16 => [uv16 n]) p.1 ++ (fun p : (Sl UInt8) × Unit => (fun s : Sl UInt8 => s.f) p.1 ++ (fun _ : Unit => []) p.2) p.2) 32 (fun x : (UInt16) × (Sl UInt8) × Unit => (True ∧ (InB w [.box bw [.slice a (List.length l) c, .bool bad] 115, .vec a c 1 (bys l) 5] x.2.1.a x.2.1.c x.2.1.l ∧ (True)))) w [.box bw [.slice a (List.length l) c, .bool bad] 115, .vec a c 1 (bys l) 5] a_x28b c_x28b x28b := i_x28b
  refine region_from ?_
  refine f_o ?_
  refine q_v (x := Instr.indexAt 81 (.slice al (List.length xs) cl) (ni i)) (v := .pointer (some (Addr.add adr23 (i * 2)))) En21 (Go.Dbr.run_indexsl (e := 196) (sz := 2) (j := i) (jo := i * 2) had24 (by kernel_rfl) (by kernel_rfl) (by omega) hb25 rfl _) fun ac29 En30 => ?_
  refine f_o ?_
  refine op_loadaggat (d := some 20) (t := 196) (ad := adr23) (ao := al) (ys := List.flatMap fCer xs) (o := i * 2) (m := 2) (xs := [.slice a_x28a (List.length x28a) c_x28a, .slice a_x28b (List.length x28b) c_x28b]) En30 (by kernel_rfl) rfl (il.ro.ev Hv18).reads had24 (fun j hj => ?_) rfl (by kernel_rfl) (by kernel_rfl) ?_
  ·
   exact flat_sub (sz := 2) (off := 0) (m := 2) (fun _ _ => rfl) hx27 (by decide) rfl j hj
  intro ac31 En32
  refine f_o ?_
  refine m_z 196 [.slice none 0 0, .slice none 0 0] En32 Hv18 fun ac34 wo35 bk33 En36 Hv37 => ?_
  refine f_o ?_
  refine m_g 4 0 2 [.slice a_x28a (List.length x28a) c_x28a, .slice a_x28b (List.length x28b) c_x28b] [.slice a_x28a (List.length x28a) c_x28a, .slice a_x28b (List.length x28b) c_x28b] [.box bw [.slice a (List.length l) c, .bool bad] 115, .vec a c 1 (bys l) 5, .box bk3 [.slice wa (List.length m) wc, .bool bd] 115, .vec wa wc 1 (bys m) 5, .box bk33 [.slice a_x28a (List.length x28a) c_x28a, .slice a_x28b (List.length x28b) c_x28b] 196] En36 Hv37 rfl rfl (by simp) (one_all (by kernel_rfl)) rfl rfl fun ac38 wo39 En40 Hv41 => ?_
  refine f_e ?_
  refine then_normal ?_
  have hnb := hfb (i + 1) (by omega)
  rw [allM_take hx27, ← hfo] at hnb
  have hnc := hnb
  simp only [crF, wexF, wput_len, List.length_append, beN_len] at hnc
  refine region_from ?_
  refine d_k [0,1,2,4,10,12,15,16,17,21,22] [] 2 En40 fun ac42 En43 => ?_
  refine f_o ?_
  refine m_a 4 0 2 [.slice a_x28a (List.length x28a) c_x28a, .slice a_x28b (List.length x28b) c_x28b] En43 Hv41 rfl rfl rfl fun ac44 En45 => ?_
  refine f_o ?_
  refine c_l [2,3] (M := [.box bk3 [.slice wa (List.length m) wc, .bool bd] 115, .vec wa wc 1 (bys m) 5]) En45 Hv41 (fun hM48 => wcer_go _ bk3 wa wc m bd a_x28a c_x28a x28a ((i_x28a.ev Hv41).pick [2, 3] (by kernel_rfl)) a_x28b c_x28b x28b (i_x28b.go Hv41 [2, 3] (by kernel_rfl) (fun _ h => ⟨h.1, (InB.ev h.2.1 Hv41).pick [2, 3] (by kernel_rfl), h.2.2⟩)) (by omega) (by first | omega | (simp only [u16F, beN_len, List.length_nil, List.length_append]; omega) | (simp only [wput_len, beN_len, List.length_nil, List.length_append]; omega) | (simp [wput_len, beN_len]; done) | (simp [wput_len, beN_len]; omega)) hM48) ?_
  rintro _ wo49 ⟨wa46, wc47, rfl, he50⟩
  refine ⟨_, _, [.box bk3 [.slice wa46 (List.length ((crF (m, bd) ((x28a, List.map (fun y : RExt => (y.1, y.2.1.l)) x28b) : CE)).1)) wc47, .bool ((crF (m, bd) ((x28a, List.map (fun y : RExt => (y.1, y.2.1.l)) x28b) : CE)).2)] 115, .vec wa46 wc47 1 (bys ((crF (m, bd) ((x28a, List.map (fun y : RExt => (y.1, y.2.1.l)) x28b) : CE)).1)) 5, .box bw [.slice a (List.length l) c, .bool bad] 115, .vec a c 1 (bys l) 5, .box bk33 [.slice a_x28a (List.length x28a) c_x28a, .slice a_x28b (List.length x28b) c_x28b] 196], rfl, he50, by kernel_rfl, fun ac52 En53 Hv54 => ?_⟩
  refine f_e ?_
  refine block_normal ?_
  refine then_normal ?_
  refine d_r [0,1,2,4,10,12,15,16,17] [(0, g_n (w_a i 1))] En53 fun ac55 En56 => ?_
  refine then_normal ?_
  refine ⟨_, ⟨i + 1, wa46, wc47, ((crF (m, bd) ((x28a, List.map (fun y : RExt => (y.1, y.2.1.l)) x28b) : CE)).1), ((crF (m, bd) ((x28a, List.map (fun y : RExt => (y.1, y.2.1.l)) x28b) : CE)).2), rfl, En56.sb, Hv54.pk [2, 3, 0, 1], (by rw [allM_take hx27, ← hfo] <;> rfl)⟩, ?_⟩
  omega
 ·
  refine wp_exit ?_
  refine then_exit ?_
  refine then_exit ?_
  refine block_exit ?_
  refine then_normal ?_
  refine wp_seq ?_
  have hfe := allM_all (F := crF) (f := (fun y : RCer => (y.1.l, List.map (fun y : RExt => (y.1, y.2.1.l)) y.2.1.l))) (xs := xs) (i := i) (by omega)
  rw [← hfo] at hfe
  refine region_cut (F := fun ac wo => ∃ (b2 : Bool), Env ac 47 [(0, pt bw), (1, ni n), (2, ni x), (4, .func (.func 197) #[] #[]), (10, pt bk3), (15, .slice al (List.length xs) cl), (16, .int .i64 ((List.length xs : Nat) : Int)), (17, ni i)] ∧ Ev w [.box bw [.slice a (List.length l) c, .bool bad] 115, .vec a c 1 (bys l) 5] wo [.box bw [.slice a (List.length l) c, .bool b2] 115, .vec a c 1 (bys l) 5, .box bk3 [.slice wa (List.length m) wc, .bool bd] 115, .vec wa wc 1 (bys m) 5] ∧ (b2 = (bad || bd))) ?_ ?_
  ·
   refine region_from ?_
   refine d_k [0,1,2,4,10,15,16,17,26,29] [] 4 En21 fun ac57 En58 => ?_
   refine f_o ?_
   refine m_l 0 En58 Hv18 fun ac59 En60 => ?_
   refine d_k [0,1,2,4,10,15,16,17,26,31] [] 6 En60 fun ac61 En62 => ?_
   rcases Bool.eq_false_or_eq_true (bad) with hb63 | hb63
   ·
    have En64 := En62.fx (t := 31) (congrArg Value.bool hb63)
    have hp65 : bad = true := hb63
    refine d_k [0,1,2,4,10,15,16,17,36,38] [] 13 En64 fun ac66 En67 => ?_
    refine f_o ?_
    refine m_s 0 [.box bw [.slice a (List.length l) c, .bool true] 115, .vec a c 1 (bys l) 5, .box bk3 [.slice wa (List.length m) wc, .bool bd] 115, .vec wa wc 1 (bys m) 5] En67 Hv18 fun ac68 wo69 En70 Hv71 => ?_
    refine f_e ?_
    exact ⟨rfl, ⟨true, En70.sb, Hv71.pk [0, 1, 2, 3], (by first | exact or_t (by assumption) | exact or_f (by assumption))⟩⟩
   ·
    have En72 := En62.fx (t := 31) (congrArg Value.bool hb63)
    have hp73 : ¬ (bad = true) := Bool.eq_false_iff.1 hb63
    refine d_k [0,1,2,4,10,15,16,17,26,31,34] [] 9 En72 fun ac74 En75 => ?_
    refine f_o ?_
    refine m_l 2 En75 Hv18 fun ac76 En77 => ?_
    refine d_k [0,1,2,4,10,15,16,17,36,38] [] 13 En77 fun ac78 En79 => ?_
    refine f_o ?_
    refine m_s 0 [.box bw [.slice a (List.length l) c, .bool bd] 115, .vec a c 1 (bys l) 5, .box bk3 [.slice wa (List.length m) wc, .bool bd] 115, .vec wa wc 1 (bys m) 5] En79 Hv18 fun ac80 wo81 En82 Hv83 => ?_
    refine f_e ?_
    exact ⟨rfl, ⟨bd, En82.sb, Hv83.pk [0, 1, 2, 3], (by first | exact or_t (by assumption) | exact or_f (by assumption))⟩⟩
  ·
   rintro ac84 wo85 ⟨b2, En86, Hv87, hb2⟩
   refine then_normal ?_
   have hml := hfb (List.length xs) (Nat.le_refl _)
   rw [List.take_of_length_le (by rw [List.length_map]; exact Nat.le_refl _), ← hfe] at hml
   rw [← hfe] at hb
   refine region_from ?_
   refine d_k [0,4,10,15,16,17,39,40,41,44] [] 6 En86 fun ac88 En89 => ?_
   refine f_o ?_
   refine m_l 2 En89 Hv87 fun ac90 En91 => ?_
   refine f_o ?_
   refine c_l [0,1] (M := [.box bw [.slice a (List.length l) c, .bool b2] 115, .vec a c 1 (bys l) 5]) En91 Hv87 (fun hM94 => wlist_go _ bw a c l b2 n (by omega) x 16777215 (by omega) (by omega) wa wc m (bys_in Hv87.heap (k := 3) rfl [0, 1] (by kernel_rfl) rfl (by first | omega | (simp; done) | (simp; omega))) (by first | exact hb | omega) hM94) ?_
   rintro _ wo95 ⟨wa92, wc93, rfl, he96⟩
   refine ⟨_, _, [.box bw [.slice wa92 (List.length (wput n l m)) wc93, .bool (wbad n x 16777215 (List.length m) b2)] 115, .vec wa92 wc93 1 (bys (wput n l m)) 5, .box bk3 [.slice wa (List.length m) wc, .bool bd] 115, .vec wa wc 1 (bys m) 5], rfl, he96, by kernel_rfl, fun ac98 En99 Hv100 => ?_⟩
   refine f_e ?_
   refine d_end0 En99 (by kernel_rfl) ?_
   subst hb2
   rw [← hfe]
   exact ⟨wa92, wc93, rfl, Hv100.pk [0, 1]⟩

theorem pcert_1 (w : World) (bw : Nat) (bt : Nat) (ab : Option Addr) (cb : Nat) (b : Bs) (al : Option Addr) (cl : Nat) (xs : List RCer) (ib : InB w [.box bw [.slice none 0 0, .bool false] 115, .vec none 0 1 (bys []) 5, .box bt [.slice ab (List.length b) cb, .slice al (List.length xs) cl] 83] ab cb b) (il : InS fCer 48 (fun y : RCer => (InB w [.box bw [.slice none 0 0, .bool false] 115, .vec none 0 1 (bys []) 5, .box bt [.slice ab (List.length b) cb, .slice al (List.length xs) cl] 83] y.1.a y.1.c y.1.l ∧ (InS (fun p : (UInt16) × (Sl UInt8) × Unit => (fun n : UInt16 => [uv16 n]) p.1 ++ (fun p : (Sl UInt8) × Unit => (fun s : Sl UInt8 => s.f) p.1 ++ (fun _ : Unit => []) p.2) p.2) 32 (fun x : (UInt16) × (Sl UInt8) × Unit => (True ∧ (InB w [.box bw [.slice none 0 0, .bool false] 115, .vec none 0 1 (bys []) 5, .box bt [.slice ab (List.length b) cb, .slice al (List.length xs) cl] 83] x.2.1.a x.2.1.c x.2.1.l ∧ (True)))) w [.box bw [.slice none 0 0, .bool false] 115, .vec none 0 1 (bys []) 5, .box bt [.slice ab (List.length b) cb, .slice al (List.length xs) cl] 83] y.2.1.a y.2.1.c y.2.1.l ∧ (True)))) w [.box bw [.slice none 0 0, .bool false] 115, .vec none 0 1 (bys []) 5, .box bt [.slice ab (List.length b) cb, .slice al (List.length xs) cl] 83] al cl xs) (hq0 : allB crF (List.map (fun y : RCer => (y.1.l, List.map (fun y : RExt => (y.1, y.2.1.l)) y.2.1.l)) xs)) (hH : Heap w [.box bw [.slice none 0 0, .bool false] 115, .vec none 0 1 (bys []) 5, .box bt [.slice ab (List.length b) cb, .slice al (List.length xs) cl] 83]) : Calls Try.prog 195 #[pt bw, pt bt] w fun e w' => ∃ a' c', e = .returned (.tuple #[]) ∧ Ev w [.box bw [.slice none 0 0, .bool false] 115, .vec none 0 1 (bys []) 5, .box bt [.slice ab (List.length b) cb, .slice al (List.length xs) cl] 83] w' [.box bw [.slice a' (List.length ((certF ([], false) (b, (List.map (fun y : RCer => (y.1.l, List.map (fun y : RExt => (y.1, y.2.1.l)) y.2.1.l)) xs))).1)) c', .bool ((certF ([], false) (b, (List.map (fun y : RCer => (y.1.l, List.map (fun y : RExt => (y.1, y.2.1.l)) y.2.1.l)) xs))).2)] 115, .vec a' c' 1 (bys ((certF ([], false) (b, (List.map (fun y : RCer => (y.1.l, List.map (fun y : RExt => (y.1, y.2.1.l)) y.2.1.l)) xs))).1)) 5] := by
 have hbs := ib.small
 refine d_0 [(0, pt bw), (1, pt bt)] 11 Go.Proofs.Try.func195 Go.Proofs.Try.ntmps195 (hH) fun act0 En0 Hv0 => ?_
 refine wp_seq ?_
 refine region_from ?_
 refine d_k [0,1,3,4] [] 2 En0 fun ac1 En2 => ?_
 refine f_o ?_
 refine m_l 2 En2 Hv0 fun ac3 En4 => ?_
 refine f_o ?_
 refine c_l [0,1] (M := [.box bw [.slice none 0 0, .bool false] 115, .vec none 0 1 (bys []) 5]) En4 Hv0 (fun hM7 => wlist_go _ bw none 0 [] false 1 (by omega) 0 255 (by omega) (by omega) ab cb b ((ib.ev Hv0).pick [0, 1] (by kernel_rfl)) (by first | omega | (simp only [u16F, beN_len, List.length_nil, List.length_append]; omega) | (simp only [wput_len, beN_len, List.length_nil, List.length_append]; omega) | (simp [wput_len, beN_len]; done) | (simp [wput_len, beN_len]; omega)) hM7) ?_
 rintro _ wo8 ⟨wa5, wc6, rfl, he9⟩
 refine ⟨_, _, [.box bw [.slice wa5 (List.length (wput 1 [] b)) wc6, .bool (wbad 1 0 255 (List.length b) false)] 115, .vec wa5 wc6 1 (bys (wput 1 [] b)) 5, .box bt [.slice ab (List.length b) cb, .slice al (List.length xs) cl] 83], rfl, he9, by kernel_rfl, fun ac11 En12 Hv13 => ?_⟩
 refine f_e ?_
 refine then_normal ?_
 refine region_from ?_
 refine d_k [0,1,7,8] [] 2 En12 fun ac14 En15 => ?_
 refine f_o ?_
 refine m_l 2 En15 Hv13 fun ac16 En17 => ?_
 refine f_o ?_
 refine c_l [0,1] (M := [.box bw [.slice wa5 (List.length (wput 1 [] b)) wc6, .bool (wbad 1 0 255 (List.length b) false)] 115, .vec wa5 wc6 1 (bys (wput 1 [] b)) 5]) En17 Hv13 (fun hM20 => all_cer _ bw wa5 wc6 (wput 1 [] b) (wbad 1 0 255 (List.length b) false) 3 (by omega) 0 (by omega) al cl xs (il.go Hv13 [0, 1] (by kernel_rfl) (fun _ h => ⟨(InB.ev h.1 Hv13).pick [0, 1] (by kernel_rfl), (h.2.1.go Hv13 [0, 1] (by kernel_rfl) (fun _ h => ⟨h.1, (InB.ev h.2.1 Hv13).pick [0, 1] (by kernel_rfl), h.2.2⟩)), h.2.2⟩)) (fun i _ => Nat.le_trans (hq0 i) (by decide)) (by have ha := allB_all hq0; simp only [List.length_nil, wput_len]; omega) hM20) ?_
 rintro _ wo21 ⟨wa18, wc19, rfl, he22⟩
 refine ⟨_, _, [.box bw [.slice wa18 (List.length (wput 3 (wput 1 [] b) (allM crF (List.map (fun y : RCer => (y.1.l, List.map (fun y : RExt => (y.1, y.2.1.l)) y.2.1.l)) xs)).1)) wc19, .bool (wbad 3 0 16777215 (List.length (allM crF (List.map (fun y : RCer => (y.1.l, List.map (fun y : RExt => (y.1, y.2.1.l)) y.2.1.l)) xs)).1) ((wbad 1 0 255 (List.length b) false) || (allM crF (List.map (fun y : RCer => (y.1.l, List.map (fun y : RExt => (y.1, y.2.1.l)) y.2.1.l)) xs)).2))] 115, .vec wa18 wc19 1 (bys (wput 3 (wput 1 [] b) (allM crF (List.map (fun y : RCer => (y.1.l, List.map (fun y : RExt => (y.1, y.2.1.l)) y.2.1.l)) xs)).1)) 5, .box bt [.slice ab (List.length b) cb, .slice al (List.length xs) cl] 83], rfl, he22, by kernel_rfl, fun ac24 En25 Hv26 => ?_⟩
 refine f_e ?_
 refine d_end0 En25 (by kernel_rfl) ?_
 exact ⟨wa18, wc19, rfl, Hv26.pk [0, 1]⟩

theorem put_pcert (w : World) (bt : Nat) (ab : Option Addr) (cb : Nat) (b : Bs) (al : Option Addr) (cl : Nat) (xs : List RCer) (ib : InB w [.box bt [.slice ab (List.length b) cb, .slice al (List.length xs) cl] 83] ab cb b) (il : InS fCer 48 (fun y : RCer => (InB w [.box bt [.slice ab (List.length b) cb, .slice al (List.length xs) cl] 83] y.1.a y.1.c y.1.l ∧ (InS (fun p : (UInt16) × (Sl UInt8) × Unit => (fun n : UInt16 => [uv16 n]) p.1 ++ (fun p : (Sl UInt8) × Unit => (fun s : Sl UInt8 => s.f) p.1 ++ (fun _ : Unit => []) p.2) p.2) 32 (fun x : (UInt16) × (Sl UInt8) × Unit => (True ∧ (InB w [.box bt [.slice ab (List.length b) cb, .slice al (List.length xs) cl] 83] x.2.1.a x.2.1.c x.2.1.l ∧ (True)))) w [.box bt [.slice ab (List.length b) cb, .slice al (List.length xs) cl] 83] y.2.1.a y.2.1.c y.2.1.l ∧ (True)))) w [.box bt [.slice ab (List.length b) cb, .slice al (List.length xs) cl] 83] al cl xs) (hq0 : allB crF (List.map (fun y : RCer => (y.1.l, List.map (fun y : RExt => (y.1, y.2.1.l)) y.2.1.l)) xs)) (hH : Heap w [.box bt [.slice ab (List.length b) cb, .slice al (List.length xs) cl] 83]) : Calls Try.prog 99 #[.func (.func 195) #[] #[pt bt]] w fun e w' => ∃ a' c', e = .returned (.slice a' (List.length (doneL ((certF ([], false) (b, (List.map (fun y : RCer => (y.1.l, List.map (fun y : RExt => (y.1, y.2.1.l)) y.2.1.l)) xs))).2) ((certF ([], false) (b, (List.map (fun y : RCer => (y.1.l, List.map (fun y : RExt => (y.1, y.2.1.l)) y.2.1.l)) xs))).1))) c') ∧ Ev w [.box bt [.slice ab (List.length b) cb, .slice al (List.length xs) cl] 83] w' [.vec a' c' 1 (bys (doneL ((certF ([], false) (b, (List.map (fun y : RCer => (y.1.l, List.map (fun y : RExt => (y.1, y.2.1.l)) y.2.1.l)) xs))).2) ((certF ([], false) (b, (List.map (fun y : RCer => (y.1.l, List.map (fun y : RExt => (y.1, y.2.1.l)) y.2.1.l)) xs))).1))) 5] := by
 refine d_0 [(0, .func (.func 195) #[] #[pt bt])] 11 Go.Proofs.Try.func99 Go.Proofs.Try.ntmps99 (hH) fun act0 En0 Hv0 => ?_
 refine d_s [0,2] [] En0 fun ac1 En2 => ?_
 refine wp_seq ?_
 refine region_from ?_
 refine d_k [0,2,4] [] 1 En2 fun ac3 En4 => ?_
 refine f_o ?_
 refine m_m 115 [.slice none 0 0, .bool false] En4 Hv0 fun ac6 wo7 bk5 En8 Hv9 => ?_
 refine d_e [0,2,3] [] En8 fun ac10 En11 => ?_
 refine then_normal ?_
 refine wp_seq ?_
 refine region_from ?_
 refine d_k [2,3,6,7] [] 2 En11 fun ac12 En13 => ?_
 refine f_o ?_
 have Hv14 : Ev w [.box bt [.slice ab (List.length b) cb, .slice al (List.length xs) cl] 83] wo7 [.box bt [.slice ab (List.length b) cb, .slice al (List.length xs) cl] 83, .box bk5 [.slice none 0 0, .bool false] 115, .vec none 0 1 (bys []) 5] := Ev.nil (sz := 1) (T := 5) Hv9
 refine c_l [1,2,0] (M := [.box bk5 [.slice none 0 0, .bool false] 115, .vec none 0 1 (bys []) 5, .box bt [.slice ab (List.length b) cb, .slice al (List.length xs) cl] 83]) En13 Hv14 (fun hM17 => pcert_1 _ bk5 bt ab cb b al cl xs ((ib.ev Hv14).pick [1, 2, 0] (by kernel_rfl)) (il.go Hv14 [1, 2, 0] (by kernel_rfl) (fun _ h => ⟨(InB.ev h.1 Hv14).pick [1, 2, 0] (by kernel_rfl), (h.2.1.go Hv14 [1, 2, 0] (by kernel_rfl) (fun _ h => ⟨h.1, (InB.ev h.2.1 Hv14).pick [1, 2, 0] (by kernel_rfl), h.2.2⟩)), h.2.2⟩)) hq0 hM17) ?_
 rintro _ wo18 ⟨wa15, wc16, rfl, he19⟩
 refine ⟨_, _, [.box bk5 [.slice wa15 (List.length ((certF ([], false) (b, (List.map (fun y : RCer => (y.1.l, List.map (fun y : RExt => (y.1, y.2.1.l)) y.2.1.l)) xs))).1)) wc16, .bool ((certF ([], false) (b, (List.map (fun y : RCer => (y.1.l, List.map (fun y : RExt => (y.1, y.2.1.l)) y.2.1.l)) xs))).2)] 115, .vec wa15 wc16 1 (bys ((certF ([], false) (b, (List.map (fun y : RCer => (y.1.l, List.map (fun y : RExt => (y.1, y.2.1.l)) y.2.1.l)) xs))).1)) 5], rfl, he19, by kernel_rfl, fun ac21 En22 Hv23 => ?_⟩
 refine f_e ?_
 refine then_normal ?_
 refine wp_seq ?_
 refine region_from ?_
 refine d_k [2,3,9] [] 1 En22 fun ac24 En25 => ?_
 refine f_o ?_
 refine c_l [0,1] (M := [.box bk5 [.slice wa15 (List.length ((certF ([], false) (b, (List.map (fun y : RCer => (y.1.l, List.map (fun y : RExt => (y.1, y.2.1.l)) y.2.1.l)) xs))).1)) wc16, .bool ((certF ([], false) (b, (List.map (fun y : RCer => (y.1.l, List.map (fun y : RExt => (y.1, y.2.1.l)) y.2.1.l)) xs))).2)] 115, .vec wa15 wc16 1 (bys ((certF ([], false) (b, (List.map (fun y : RCer => (y.1.l, List.map (fun y : RExt => (y.1, y.2.1.l)) y.2.1.l)) xs))).1)) 5]) En25 Hv23 (fun hM28 => wdone_go _ bk5 wa15 wc16 ((certF ([], false) (b, (List.map (fun y : RCer => (y.1.l, List.map (fun y : RExt => (y.1, y.2.1.l)) y.2.1.l)) xs))).1) ((certF ([], false) (b, (List.map (fun y : RCer => (y.1.l, List.map (fun y : RExt => (y.1, y.2.1.l)) y.2.1.l)) xs))).2) hM28) ?_
 rintro _ wo29 ⟨da26, dc27, rfl, he30⟩
 refine ⟨_, _, [.vec da26 dc27 1 (bys (doneL ((certF ([], false) (b, (List.map (fun y : RCer => (y.1.l, List.map (fun y : RExt => (y.1, y.2.1.l)) y.2.1.l)) xs))).2) ((certF ([], false) (b, (List.map (fun y : RCer => (y.1.l, List.map (fun y : RExt => (y.1, y.2.1.l)) y.2.1.l)) xs))).1))) 5], rfl, he30, by kernel_rfl, fun ac32 En33 Hv34 => ?_⟩
 refine d_e [2,3] [] En33 fun ac35 En36 => ?_
 refine then_normal ?_
 refine wp_ret ?_
 refine d_ret1 (t := 2) (v := .slice da26 (List.length (doneL ((certF ([], false) (b, (List.map (fun y : RCer => (y.1.l, List.map (fun y : RExt => (y.1, y.2.1.l)) y.2.1.l)) xs))).2) ((certF ([], false) (b, (List.map (fun y : RCer => (y.1.l, List.map (fun y : RExt => (y.1, y.2.1.l)) y.2.1.l)) xs))).1))) dc27) En36 (by kernel_rfl) (by kernel_rfl) ?_
 exact ⟨da26, dc27, rfl, Hv34.pk [0]⟩

theorem pcert_go (w : World) (ab : Option Addr) (cb : Nat) (b : Bs) (al : Option Addr) (cl : Nat) (xs : List RCer) (ib : InB w [] ab cb b) (il : InS fCer 48 (fun y : RCer => (InB w [] y.1.a y.1.c y.1.l ∧ (InS (fun p : (UInt16) × (Sl UInt8) × Unit => (fun n : UInt16 => [uv16 n]) p.1 ++ (fun p : (Sl UInt8) × Unit => (fun s : Sl UInt8 => s.f) p.1 ++ (fun _ : Unit => []) p.2) p.2) 32 (fun x : (UInt16) × (Sl UInt8) × Unit => (True ∧ (InB w [] x.2.1.a x.2.1.c x.2.1.l ∧ (True)))) w [] y.2.1.a y.2.1.c y.2.1.l ∧ (True)))) w [] al cl xs) (hq0 : allB crF (List.map (fun y : RCer => (y.1.l, List.map (fun y : RExt => (y.1, y.2.1.l)) y.2.1.l)) xs)) : Calls Try.prog 89 #[.agg #[.slice ab (List.length b) cb, .slice al (List.length xs) cl]] w fun e w' => ∃ a' c', e = .returned (.slice a' (List.length (certP (b, (List.map (fun y : RCer => (y.1.l, List.map (fun y : RExt => (y.1, y.2.1.l)) y.2.1.l)) xs)))) c') ∧ Ev w [] w' [.vec a' c' 1 (bys (certP (b, (List.map (fun y : RCer => (y.1.l, List.map (fun y : RExt => (y.1, y.2.1.l)) y.2.1.l)) xs)))) 5] := by
 have hbs := ib.small
 refine d_0 [(0, .agg #[.slice ab (List.length b) cb, .slice al (List.length xs) cl])] 5 Go.Proofs.Try.func89 Go.Proofs.Try.ntmps89 (Heap.nil _) fun act0 En0 Hv0 => ?_
 refine wp_seq ?_
 refine region_from ?_
 refine f_o ?_
 refine m_m 83 [.slice ab (List.length b) cb, .slice al (List.length xs) cl] En0 Hv0 fun ac2 wo3 bk1 En4 Hv5 => ?_
 refine d_e [1,2] [] En4 fun ac6 En7 => ?_
 refine then_normal ?_
 refine wp_seq ?_
 refine region_from ?_
 refine d_k [2,3] [] 1 En7 fun ac8 En9 => ?_
 refine f_o ?_
 refine c_l [0] (M := [.box bk1 [.slice ab (List.length b) cb, .slice al (List.length xs) cl] 83]) En9 Hv5 (fun hM12 => put_pcert _ bk1 ab cb b al cl xs ((ib.ev Hv5).pick [0] (by kernel_rfl)) (il.go Hv5 [0] (by kernel_rfl) (fun _ h => ⟨(InB.ev h.1 Hv5).pick [0] (by kernel_rfl), (h.2.1.go Hv5 [0] (by kernel_rfl) (fun _ h => ⟨h.1, (InB.ev h.2.1 Hv5).pick [0] (by kernel_rfl), h.2.2⟩)), h.2.2⟩)) hq0 hM12) ?_
 rintro _ wo13 ⟨pa10, pc11, rfl, he14⟩
 refine ⟨_, _, [.vec pa10 pc11 1 (bys (certP (b, (List.map (fun y : RCer => (y.1.l, List.map (fun y : RExt => (y.1, y.2.1.l)) y.2.1.l)) xs)))) 5], rfl, he14, by kernel_rfl, fun ac16 En17 Hv18 => ?_⟩
 refine d_e [2] [] En17 fun ac19 En20 => ?_
 refine then_normal ?_
 refine wp_ret ?_
 refine d_ret1 (t := 2) (v := .slice pa10 (List.length (certP (b, (List.map (fun y : RCer => (y.1.l, List.map (fun y : RExt => (y.1, y.2.1.l)) y.2.1.l)) xs)))) pc11) En20 (by kernel_rfl) (by kernel_rfl) ?_
 exact ⟨pa10, pc11, rfl, Hv18.pk [0]⟩

end Go.Proofs.Ytofecellbfhnjaa

/- Layer 17: offered tickets are read by the program. -/

namespace Go.Proofs.Ytofecellbfhnjaa
open Go.Dbr
set_option maxRecDepth 100000
set_option maxHeartbeats 2000000
set_option linter.unusedVariables false
set_option linter.unusedSimpArgs false

theorem sv_nz {α : Type} {f : α → List Value} {sz : Nat} {w : World} {L : List Ent} (h : Heap w L) {k : Nat} {a : Option Addr} {cap : Nat} {xs : List α} {T : TypeId} (hk : L[k]? = some (.vec a cap sz (xs.flatMap f) T)) (hf : ∀ x, (f x).length = sz) (h1 : 0 < sz) : a = none → xs.length = 0 := fun ha => by
  have h0 : Ent.holds0 w (.vec a cap sz (xs.flatMap f) T) := h.holds k _ hk
  subst ha
  obtain ⟨_, h2⟩ := h0
  have := sv_len hf xs
  rw [h2] at this
  rcases Nat.eq_zero_or_pos xs.length with e | e
  · exact e
  · have := Nat.mul_pos e h1; simp at *; omega
section
variable {w w0 : World} {L L0 : List Ent}
/-- some entries are kept, of others what is wanted becomes one that is read alone -/
theorem Ev.groupS (H : Ev w0 L0 w L) (is ks : List Nat) {M : List Ent} {D : List Inn} (hm : M.map some = is.map (fun i => L[i]?)) (inD0 : ∀ d ∈ D, ∃ k, k ∈ ks ∧ d ∈ innAt L k) (nd : (is ++ ks).Nodup) : Ev w0 L0 w (M ++ [.grp D]) := by
  have ndi : is.Nodup := (List.nodup_append.1 nd).1
  have hh := H.heap
  have inD : ∀ d : Inn, d ∈ D → ∃ (k : Nat) (e : Ent), k ∈ ks ∧ L[k]? = some e ∧ d ∈ e.inn := by
    intro d hd
    obtain ⟨k, hk, hd⟩ := inD0 d hd
    obtain ⟨e, he, hd⟩ := mem_innAt hd
    exact ⟨k, e, hk, he, hd⟩
  have ownD : ∀ b, Owns [Ent.grp D] b → ∃ (k : Nat) (e : Ent), k ∈ ks ∧ L[k]? = some e ∧ e.own b := by
    intro b ⟨i, e, hi, he⟩
    cases i with
    | succ i => simp at hi
    | zero =>
      simp only [List.getElem?_cons_zero, Option.some.injEq] at hi
      subst hi
      obtain ⟨d, hd, hb⟩ := he
      obtain ⟨k, e, hk, hke, hde⟩ := inD d hd
      exact ⟨k, e, hk, hke, inn_own hde hb⟩
  have one : Heap w [Ent.grp D] := by
    have at0 : ∀ (i : Nat) (f : Ent), [Ent.grp D][i]? = some f → i = 0 ∧ f = .grp D := fun i f hi => by
      cases i with
      | zero => exact ⟨rfl, by simpa using hi.symm⟩
      | succ i => simp at hi
    refine ⟨fun i j f g b hi hj _ _ => by rw [(at0 i f hi).1, (at0 j g hj).1], fun i f hi => ?_⟩
    rw [(at0 i f hi).2]
    intro d hd
    obtain ⟨k, e, _, hke, hde⟩ := inD d hd
    exact inn_holds hde (hh.holds k e hke)
  refine ⟨(hh.pick is hm ndi).append one fun b ho ho' => ?_, H.chg, fun b ho => ?_⟩
  · obtain ⟨k, e, hk, hke, heb⟩ := ownD b ho'
    obtain ⟨j, f, hj, hf⟩ := ho
    have h1 : (M.map some)[j]? = some (some f) := by simp [hj]
    rw [hm, List.getElem?_map] at h1
    cases hi : is[j]? with
    | none => simp [hi] at h1
    | some i =>
      have h2 : L[i]? = some f := by simpa [hi] using h1
      have e1 := hh.sep i k f e b h2 hke hf heb
      subst e1
      exact (List.nodup_append.1 nd).2.2 i (List.mem_of_getElem? hi) i hk rfl
  · rcases owns_append.1 ho with h1 | h1
    · exact H.new b (owns_pick hm h1)
    · obtain ⟨k, e, _, hke, heb⟩ := ownD b h1
      exact H.new b ⟨k, e, hke, heb⟩
end
theorem psk_sub {n : Nat} {xs : List RPsk} {ys : List RByl} {d : Inn} (h : d ∈ List.flatMap innPsk (bnd upR n xs ys)) : d ∈ List.flatMap innPsk xs ∨ d ∈ List.flatMap innByl ys := by
  obtain ⟨z, hz, hd⟩ := List.mem_flatMap.1 h
  rcases bnd_mem hz with hz | ⟨x, y, hx, hy, e⟩
  · exact .inl (List.mem_flatMap.2 ⟨z, hz, hd⟩)
  · subst e
    rcases List.mem_cons.1 hd with e | hd
    · exact .inl (List.mem_flatMap.2 ⟨x, hx, by rw [e]; exact List.mem_cons_self⟩)
    · exact .inr (List.mem_flatMap.2 ⟨y, hy, hd⟩)
theorem psk_sm {n : Nat} {xs : List RPsk} {ys : List RByl} (hx : ∀ x ∈ xs, (List.length x.1.l ≤ 140737488351232 ∧ List.length x.2.2.1.l ≤ 140737488351232)) (hy : ∀ y ∈ ys, List.length y.l ≤ 140737488351232) : ∀ z ∈ bnd upR n xs ys, (List.length z.1.l ≤ 140737488351232 ∧ List.length z.2.2.1.l ≤ 140737488351232) := fun z hz => by
  rcases bnd_mem hz with hz | ⟨x, y, h1, h2, e⟩
  · exact hx z hz
  · subst e
    exact ⟨(hx x h1).1, hy y h2⟩
def pskO (l : Bs) (s o : Bool) : List PK × PS := manyM psk1M 2 1 l s o
def pskB (l : Bs) (s o : Bool) : List Bs × PS := manyM (listM 1 32 255) 2 1 (pskO l s o).2.1 (pskO l s o).2.2.1 (pskO l s o).2.2.2
def pskM (l : Bs) (s o : Bool) : List PK × PS := (bnd upP (pskB l s o).1.length (pskO l s o).1 (pskB l s o).1, (pskB l s o).2.1, (pskB l s o).2.2.1 || (((pskB l s o).1.length : Int) != ((pskO l s o).1.length : Int)), (pskB l s o).2.2.2)
def gotN {α : Type} (q : α × PS) (n : Nat) : Nat := if gotA q = 0 then n else 0

theorem getpsks1 (w : World) (br bn : Nat) (v0 : Int) (a : Option Addr) (c : Nat) (l : List UInt8) (s o : Bool) (i : InB w [.box br [.slice a (List.length l) c, .bool s, .bool o] 120, .box bn [.int .i64 v0] 3] a c l) (hH : Heap w [.box br [.slice a (List.length l) c, .bool s, .bool o] 120, .box bn [.int .i64 v0] 3]) : Calls Try.prog 165 #[pt br, pt bn] w fun e w' => ∃ ta tc oa oc xs, e = .returned (.slice oa (List.length xs) oc) ∧ Ev w [.box br [.slice a (List.length l) c, .bool s, .bool o] 120, .box bn [.int .i64 v0] 3] w' [.box br [.slice ta (List.length ((pskM l s o).2.1)) tc, .bool ((pskM l s o).2.2.1), .bool ((pskM l s o).2.2.2)] 120, .box bn [.int .i64 ((List.length (pskO l s o).2.1 : Nat) : Int)] 3, .vec oa oc 3 (List.flatMap fPsk xs) 140, .grp (List.flatMap innPsk xs)] ∧ Sub a c l ta tc (pskM l s o).2.1 ∧ List.map puPsk xs = (pskM l s o).1 ∧ List.length xs ≤ 4294967296 ∧ ∀ y ∈ xs, (List.length y.1.l ≤ 140737488351232 ∧ List.length y.2.2.1.l ≤ 140737488351232) := by
 refine d_0 [(0, pt br), (1, pt bn)] 48 Go.Proofs.Try.func165 Go.Proofs.Try.ntmps165 (hH) fun act0 En0 Hv0 => ?_
 refine wp_seq ?_
 refine d_r [0,1,3] [] En0 fun ac1 En2 => ?_
 refine then_normal ?_
 refine wp_seq ?_
 refine region_from ?_
 refine d_k [0,1,3,7] [] 1 En2 fun ac3 En4 => ?_
 refine f_o ?_
 refine c_l [0] (M := [.box br [.slice a (List.length l) c, .bool s, .bool o] 120]) En4 Hv0 (fun hM14 => many_psk _ br 2 (by omega) 1 (by omega) a c l s o ((i.ev Hv0).pick [0] (by kernel_rfl)) hM14) ?_
 rintro _ wo15 ⟨ta5, tc6, oa7, oc8, xs9, rfl, he16, hs10, hmn11, hct12, hsm13⟩
 refine ⟨_, _, [.box br [.slice ta5 (List.length ((pskO l s o).2.1)) tc6, .bool ((pskO l s o).2.2.1), .bool ((pskO l s o).2.2.2)] 120, .vec oa7 oc8 3 (List.flatMap fPsk xs9) 140, .grp (List.flatMap innPsk xs9), .box bn [.int .i64 v0] 3], rfl, he16, by kernel_rfl, fun ac18 En19 Hv20 => ?_⟩
 replace hmn11 : List.map puPsk xs9 = (pskO l s o).1 := hmn11
 have hq21 := Nat.le_trans hct12 (lsO_32 (by decide) _ _)
 refine d_e [0,1,3,4] [] En19 fun ac22 En23 => ?_
 refine then_normal ?_
 refine wp_seq ?_
 refine region_from ?_
 refine d_k [0,1,3,4,11] [] 3 En23 fun ac24 En25 => ?_
 refine f_o ?_
 refine m_l 0 En25 Hv20 fun ac26 En27 => ?_
 refine d_k [0,1,3,4,13] [] 5 En27 fun ac28 En29 => ?_
 refine f_o ?_
 refine m_s 3 [.box br [.slice ta5 (List.length ((pskO l s o).2.1)) tc6, .bool ((pskO l s o).2.2.1), .bool ((pskO l s o).2.2.2)] 120, .vec oa7 oc8 3 (List.flatMap fPsk xs9) 140, .grp (List.flatMap innPsk xs9), .box bn [.int .i64 ((List.length ((pskO l s o).2.1) : Nat) : Int)] 3] En29 Hv20 fun ac30 wo31 En32 Hv33 => ?_
 refine f_e ?_
 refine then_normal ?_
 refine wp_seq ?_
 refine region_from ?_
 refine d_k [0,3,4,14] [] 1 En32 fun ac34 En35 => ?_
 refine f_o ?_
 refine c_l [0] (M := [.box br [.slice ta5 (List.length ((pskO l s o).2.1)) tc6, .bool ((pskO l s o).2.2.1), .bool ((pskO l s o).2.2.2)] 120]) En35 Hv33 (fun hM45 => many_byl _ br 2 (by omega) 1 (by omega) ta5 tc6 ((pskO l s o).2.1) ((pskO l s o).2.2.1) ((pskO l s o).2.2.2) (hs10 _ _ ((i.ev Hv33).pick [0] (by kernel_rfl))) hM45) ?_
 rintro _ wo46 ⟨ta36, tc37, oa38, oc39, xs40, rfl, he47, hs41, hmn42, hct43, hsm44⟩
 refine ⟨_, _, [.box br [.slice ta36 (List.length ((pskB l s o).2.1)) tc37, .bool ((pskB l s o).2.2.1), .bool ((pskB l s o).2.2.2)] 120, .vec oa38 oc39 1 (List.flatMap fByl xs40) 23, .grp (List.flatMap innByl xs40), .vec oa7 oc8 3 (List.flatMap fPsk xs9) 140, .grp (List.flatMap innPsk xs9), .box bn [.int .i64 ((List.length ((pskO l s o).2.1) : Nat) : Int)] 3], rfl, he47, by kernel_rfl, fun ac49 En50 Hv51 => ?_⟩
 replace hmn42 : List.map (fun y : RByl => y.l) xs40 = (pskB l s o).1 := hmn42
 have hq52 := Nat.le_trans hct43 (lsO_32 (by decide) _ _)
 refine d_e [0,3,4,5] [] En50 fun ac53 En54 => ?_
 refine then_normal ?_
 refine wp_seq ?_
 refine region_cut (F := fun ac wo => ∃ (b2 : Bool), Env ac 48 [(0, pt br), (3, .slice none 0 0), (4, .slice oa7 (List.length xs9) oc8), (5, .slice oa38 (List.length xs40) oc39)] ∧ Ev w [.box br [.slice a (List.length l) c, .bool s, .bool o] 120, .box bn [.int .i64 v0] 3] wo [.box br [.slice ta36 (List.length ((pskB l s o).2.1)) tc37, .bool b2, .bool ((pskB l s o).2.2.2)] 120, .box bn [.int .i64 ((List.length ((pskO l s o).2.1) : Nat) : Int)] 3, .vec oa7 oc8 3 (List.flatMap fPsk xs9) 140, .grp (List.flatMap innPsk xs9), .vec oa38 oc39 1 (List.flatMap fByl xs40) 23, .grp (List.flatMap innByl xs40)] ∧ (b2 = ((pskB l s o).2.2.1 || (((List.length xs40 : Nat) : Int) != ((List.length xs9 : Nat) : Int))))) ?_ ?_
 ·
  refine region_from ?_
  refine d_k [0,3,4,5,16,19] [] 4 En54 fun ac55 En56 => ?_
  refine f_o ?_
  refine m_l 0 En56 Hv51 fun ac57 En58 => ?_
  refine d_k [0,3,4,5,16,21] [] 6 En58 fun ac59 En60 => ?_
  rcases Bool.eq_false_or_eq_true ((pskB l s o).2.2.1) with hb61 | hb61
  ·
   have En62 := En60.fx (t := 21) (congrArg Value.bool hb61)
   have hp63 : (pskB l s o).2.2.1 = true := hb61
   refine d_k [0,3,4,5,27,29] [] 14 En62 fun ac64 En65 => ?_
   refine f_o ?_
   refine m_s 0 [.box br [.slice ta36 (List.length ((pskB l s o).2.1)) tc37, .bool true, .bool ((pskB l s o).2.2.2)] 120, .vec oa38 oc39 1 (List.flatMap fByl xs40) 23, .grp (List.flatMap innByl xs40), .vec oa7 oc8 3 (List.flatMap fPsk xs9) 140, .grp (List.flatMap innPsk xs9), .box bn [.int .i64 ((List.length ((pskO l s o).2.1) : Nat) : Int)] 3] En65 Hv51 fun ac66 wo67 En68 Hv69 => ?_
   refine f_e ?_
   exact ⟨rfl, ⟨true, En68.sb, Hv69.pk [0, 5, 3, 4, 1, 2], (by first | exact or_t (by assumption) | exact or_f (by assumption))⟩⟩
  ·
   have En70 := En60.fx (t := 21) (congrArg Value.bool hb61)
   have hp71 : ¬ ((pskB l s o).2.2.1 = true) := Bool.eq_false_iff.1 hb61
   refine d_k [0,3,4,5,27,29] [] 14 En70 fun ac72 En73 => ?_
   refine f_o ?_
   refine m_s 0 [.box br [.slice ta36 (List.length ((pskB l s o).2.1)) tc37, .bool (((List.length xs40 : Nat) : Int) != ((List.length xs9 : Nat) : Int)), .bool ((pskB l s o).2.2.2)] 120, .vec oa38 oc39 1 (List.flatMap fByl xs40) 23, .grp (List.flatMap innByl xs40), .vec oa7 oc8 3 (List.flatMap fPsk xs9) 140, .grp (List.flatMap innPsk xs9), .box bn [.int .i64 ((List.length ((pskO l s o).2.1) : Nat) : Int)] 3] En73 Hv51 fun ac74 wo75 En76 Hv77 => ?_
   refine f_e ?_
   exact ⟨rfl, ⟨(((List.length xs40 : Nat) : Int) != ((List.length xs9 : Nat) : Int)), En76.sb, Hv77.pk [0, 5, 3, 4, 1, 2], (by first | exact or_t (by assumption) | exact or_f (by assumption))⟩⟩
 ·
  rintro ac78 wo79 ⟨b2, En80, Hv81, hb2⟩
  refine then_normal ?_
  refine wp_seq ?_
  refine wp_seq ?_
  refine d_r [0,3,4,5,34,35] [(4, g_i .i64 (min_nat (List.length xs9) (List.length xs40)))] En80 fun ac82 En83 => ?_
  refine then_normal ?_
  refine wp_block ?_
  refine loop_m (fun ms84 ac wo => ∃ (i : Nat), ms84 = (List.length xs9 + 1 - i : Nat) ∧ Env ac 48 [(0, pt br), (3, .slice none 0 0), (4, .slice oa7 (List.length xs9) oc8), (5, .slice oa38 (List.length xs40) oc39), (34, .int .i64 ((min (List.length xs9) (List.length xs40) : Nat) : Int)), (35, ni i)] ∧ Ev w [.box br [.slice a (List.length l) c, .bool s, .bool o] 120, .box bn [.int .i64 v0] 3] wo [.box br [.slice ta36 (List.length ((pskB l s o).2.1)) tc37, .bool b2, .bool ((pskB l s o).2.2.2)] 120, .box bn [.int .i64 ((List.length ((pskO l s o).2.1) : Nat) : Int)] 3, .vec oa7 oc8 3 (List.flatMap fPsk (bnd upR i xs9 xs40)) 140, .grp (List.flatMap innPsk xs9), .vec oa38 oc39 1 (List.flatMap fByl xs40) 23, .grp (List.flatMap innByl xs40)] ∧ (i ≤ min (List.length xs9) (List.length xs40))) ⟨_, 0, rfl, En83.sb, Hv81.pk [0, 1, 2, 3, 4, 5], (Nat.zero_le _)⟩ ?_
  rintro mm90 ac86 wo87 ⟨i, rfl, En88, Hv89, him⟩
  refine wp_seq ?_
  refine d_r [0,3,4,5,34,35,36] [] En88 fun ac91 En92 => ?_
  refine then_normal ?_
  refine wp_seq ?_
  refine c_d (((i : Nat) : Int) < ((min (List.length xs9) (List.length xs40) : Nat) : Int)) En92 (fun hc93 => ?_) (fun hc93 => ?_)
  ·
   refine wp_skip ?_
   refine then_normal ?_
   refine wp_seq ?_
   refine wp_block ?_
   refine wp_seq ?_
   refine d_r [0,3,4,5,6,34,35] [] En92 fun ac94 En95 => ?_
   refine then_normal ?_
   have hbl := bnd_len (u := upR) i xs9 xs40
   have him : i < min (List.length xs9) (List.length xs40) := by omega
   have hi1 : i < List.length xs9 := by omega
   have hi2 : i < List.length xs40 := by omega
   have hb98 : i < List.length xs40 := (by omega)
   obtain ⟨adr96, had97⟩ := some_of (sv_nz (f := fByl) (sz := 1) Hv89.heap (k := 4) rfl (fun _ => rfl) (by decide)) hb98
   have hb99 : i < List.length xs40 := by omega
   obtain ⟨⟨a_x101, c_x101, x101⟩, hx100⟩ : ∃ x, (xs40)[i]? = some x := ⟨_, List.getElem?_eq_getElem hb99⟩
   refine region_from ?_
   refine d_k [0,3,4,5,34,35,38,39,40,41] [] 4 En95 fun ac102 En103 => ?_
   refine f_o ?_
   refine q_v (x := Instr.indexAt 180 (.slice oa38 (List.length xs40) oc39) (ni i)) (v := .pointer (some (Addr.add adr96 i))) En103 (Go.Dbr.run_indexsl (e := 23) (sz := 1) (j := i) (jo := i) had97 (by kernel_rfl) (by kernel_rfl) (by omega) hb98 (Nat.mul_one _) _) fun ac104 En105 => ?_
   refine f_o ?_
   refine op_loadf (d := some 43) (t := 23) (ad := adr96) (ao := oa38) (ys := List.flatMap fByl xs40) (o := i) (v := .slice a_x101 (List.length x101) c_x101) En105 (by kernel_rfl) rfl (Hv89.heap.reads (k := 4) rfl) had97 ((flat_get1 (fun _ _ => rfl) hx100).trans rfl) (by kernel_rfl) ?_
   intro ac106 En107
   have hb110 : i < List.length xs9 := (by omega)
   obtain ⟨adr108, had109⟩ := some_of (fun e => by have h := (sv_nz (f := fPsk) (sz := 3) Hv89.heap (k := 2) rfl (fun _ => rfl) (by decide)) e; omega) hb110
   have hb111 : i < List.length (bnd upR i xs9 xs40) := by omega
   obtain ⟨⟨⟨a_x113a, c_x113a, x113a⟩, x113b, ⟨a_x113c, c_x113c, x113c⟩, _⟩, hx112⟩ : ∃ x, (bnd upR i xs9 xs40)[i]? = some x := ⟨_, List.getElem?_eq_getElem hb111⟩
   refine f_o ?_
   refine q_v (x := Instr.indexAt 35 (.slice oa7 (List.length xs9) oc8) (ni i)) (v := .pointer (some (Addr.add adr108 (i * 3)))) En107 (Go.Dbr.run_indexsl (e := 140) (sz := 3) (j := i) (jo := i * 3) had109 (by kernel_rfl) (by kernel_rfl) (by omega) hb110 rfl _) fun ac114 En115 => ?_
   refine d_k [0,3,4,5,34,35,43,45] [] 8 En115 fun ac116 En117 => ?_
   refine f_o ?_
   refine op_storef (d := none) (t := 23) (ad := adr108) (ao := oa7) (k := 2) (cap := oc8) (sz := 3) (o := i * 3 + 2) (xs := List.flatMap fPsk (bnd upR i xs9 xs40)) (v := .slice a_x101 (List.length x101) c_x101) En117 (by kernel_rfl) (Deep.add_add _ _ _) Hv89 rfl had109 (by rw [sv_len (f := fPsk) (sz := 3) (fun _ => rfl)]; omega) (by kernel_rfl) rfl ?_
   intro ac118 wo119  En120 Hv121
   rw [flat_set (f := fPsk) (x' := (⟨a_x113a, c_x113a, x113a⟩, x113b, ⟨a_x101, c_x101, x101⟩, ())) (fun _ => rfl) hx112 (by decide) rfl] at Hv121
   refine f_e ?_
   refine block_normal ?_
   refine then_normal ?_
   refine d_r [0,3,4,5,34,35] [(0, g_n (w_a i 1))] En120 fun ac122 En123 => ?_
   refine then_normal ?_
   rw [show List.set (bnd upR i xs9 xs40) i (⟨a_x113a, c_x113a, x113a⟩, x113b, ⟨a_x101, c_x101, x101⟩, ()) = bnd upR (i + 1) xs9 xs40 from bnd_set (u := upR) hx112 hx100] at Hv121
   refine ⟨_, ⟨i + 1, rfl, En123.sb, Hv121.pk [0, 1, 2, 3, 4, 5], (by omega)⟩, ?_⟩
   omega
  ·
   refine wp_exit ?_
   refine then_exit ?_
   refine then_exit ?_
   refine block_exit ?_
   refine then_normal ?_
   refine wp_seq ?_
   refine d_r [0,3,4,5,34,35] [] En92 fun ac124 En125 => ?_
   refine then_normal ?_
   refine wp_ret ?_
   refine d_ret1 (t := 3) (v := .slice oa7 (List.length xs9) oc8) En125 (by kernel_rfl) (by kernel_rfl) ?_
   have eZ : bnd upR i xs9 xs40 = bnd upR (List.length xs40) xs9 xs40 := bnd_over (by omega) (by omega)
   rw [eZ] at Hv89
   have Hv126 : Ev w [.box br [.slice a (List.length l) c, .bool s, .bool o] 120, .box bn [.int .i64 v0] 3] wo87 ([.box br [.slice ta36 (List.length ((pskB l s o).2.1)) tc37, .bool b2, .bool ((pskB l s o).2.2.2)] 120, .box bn [.int .i64 ((List.length ((pskO l s o).2.1) : Nat) : Int)] 3, .vec oa7 oc8 3 (List.flatMap fPsk (bnd upR (List.length xs40) xs9 xs40)) 140] ++ [.grp (List.flatMap innPsk (bnd upR (List.length xs40) xs9 xs40))]) := Ev.groupS Hv89 [0,1,2] [3, 5] (by kernel_rfl) (fun d hd => (psk_sub hd).elim (fun h => ⟨3, by decide, h⟩) fun h => ⟨5, by decide, h⟩) (by decide)
   have e1 : b2 = (pskM l s o).2.2.1 := by rw [hb2, ← List.length_map (f := (fun y : RByl => y.l)), hmn42, ← List.length_map (f := puPsk), hmn11]; rfl
   clear hb2
   subst e1
   have hzl : List.length xs9 = List.length (bnd upR (List.length xs40) xs9 xs40) := (bnd_len _ _ _).symm
   rw [hzl]
   exact ⟨ta36, tc37, oa7, oc8, bnd upR (List.length xs40) xs9 xs40, rfl, Hv126, (hs10.trans hs41), (by show _ = bnd upP (List.length (pskB l s o).1) (pskO l s o).1 (pskB l s o).1; rw [bnd_map (f := puPsk) (g := (fun y : RByl => y.l)) (u2 := upP) (fun _ _ => rfl), hmn11, hmn42, ← hmn42, List.length_map]), (by rw [← hzl]; exact Nat.le_trans hct12 (lsO_32 (by decide) _ _)), (psk_sm hsm13 hsm44)⟩

end Go.Proofs.Ytofecellbfhnjaa
