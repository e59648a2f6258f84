import Derived.Test.YtofecellbfhnjaaMa9
import Derived.Test.YtofecellbfhnjaaMa5
import Derived.Test.YtofecellbfhnjaaMa6
/- Layer 17: extensions, requests, tickets, certificates are written by the program. -/


namespace Go.Proofs.Ytofecellbfhnjaa
open Go.Dbr
set_option maxRecDepth 100000
set_option maxHeartbeats 2000000
set_option linter.unusedVariables false
set_option linter.unusedSimpArgs false

def exF (p : WS) (x : EX) : WS := (wput 2 (p.1 ++ beN 2 x.1.toNat) x.2, wbad 2 0 65535 x.2.length p.2)
def wexF (p : WS) (ps : List EX) : WS := (wput 2 p.1 (allM exF ps).1, wbad 2 0 16777215 (allM exF ps).1.length ((p.2 || dupA ps) || (allM exF ps).2))
theorem exF_len (p : WS) (x : EX) : p.1.length ≤ (exF p x).1.length := by rw [exF, wput_len, List.length_append]; omega
theorem fold_mono {β : Type} {F : WS → β → WS} (h : ∀ p x, p.1.length ≤ (F p x).1.length) : ∀ (ps : List β) (p : WS), p.1.length ≤ (List.foldl F p ps).1.length
  | [], _ => Nat.le_refl _
  | x :: r, p => Nat.le_trans (h p x) (fold_mono h r (F p x))
theorem allM_mono {β : Type} {F : WS → β → WS} (h : ∀ p x, p.1.length ≤ (F p x).1.length) (ps : List β) (i : Nat) : (allM F (List.take i ps)).1.length ≤ (allM F ps).1.length := by
  have e : allM F ps = List.foldl F (allM F (List.take i ps)) (List.drop i ps) := by
    rw [allM, allM, ← List.foldl_append, List.take_append_drop]
  rw [e]
  exact fold_mono h _ _
def reqF (p : WS) (x : Bs × List EX) : WS := wexF (wput 1 p.1 x.1, wbad 1 0 255 x.1.length p.2) x.2
def ticF (p : WS) (x : UInt32 × UInt32 × Bs × Bs × List EX) : WS := wexF (wput 2 (wput 1 ((p.1 ++ beN 4 x.1.toNat) ++ beN 4 x.2.1.toNat) x.2.2.1) x.2.2.2.1, wbad 2 1 65535 x.2.2.2.1.length (wbad 1 0 255 x.2.2.1.length p.2)) x.2.2.2.2
def crF (p : WS) (x : CE) : WS := wexF (wput 3 p.1 x.1, wbad 3 1 16777215 x.1.length p.2) x.2
def certF (p : WS) (x : Bs × List CE) : WS := (wput 3 (wput 1 p.1 x.1) (allM crF x.2).1, wbad 3 0 16777215 (allM crF x.2).1.length (wbad 1 0 255 x.1.length p.2 || (allM crF x.2).2))
def exsP (ps : List EX) : Bs := doneL (wexF ([], false) ps).2 (wexF ([], false) ps).1
def reqP (x : Bs × List EX) : Bs := doneL (reqF ([], false) x).2 (reqF ([], false) x).1
def verP (x : EX) : Bs := doneL (exF ([], false) x).2 (exF ([], false) x).1
def ticP (x : UInt32 × UInt32 × Bs × Bs × List EX) : Bs := doneL (ticF ([], false) x).2 (ticF ([], false) x).1
def certP (x : Bs × List CE) : Bs := doneL (certF ([], false) x).2 (certF ([], false) x).1

theorem wext_go (w : World) (bw : Nat) (a : Option Addr) (c : Nat) (l : Bs) (bad : Bool) (g : UInt16) (ab : Option Addr) (cb : Nat) (b : Bs) (ib : InB w [.box bw [.slice a (List.length l) c, .bool bad] 115, .vec a c 1 (bys l) 5] ab cb b) (hb : List.length l + 4 + List.length b ≤ 200000000000000) (hH : Heap w [.box bw [.slice a (List.length l) c, .bool bad] 115, .vec a c 1 (bys l) 5]) : Calls Try.prog 208 #[pt bw, .agg #[uv16 g, .slice ab (List.length b) cb]] w fun e w' => ∃ a' c', e = .returned (.tuple #[]) ∧ Ev w [.box bw [.slice a (List.length l) c, .bool bad] 115, .vec a c 1 (bys l) 5] w' [.box bw [.slice a' (List.length ((exF (l, bad) (g, b)).1)) c', .bool ((exF (l, bad) (g, b)).2)] 115, .vec a' c' 1 (bys ((exF (l, bad) (g, b)).1)) 5] := by
 have hbs := ib.small
 have hl1 : List.length (u16F (l, bad) g).1 = List.length l + 2 := by rw [u16F, List.length_append, beN_len]
 refine d_0 [(0, pt bw), (1, .agg #[uv16 g, .slice ab (List.length b) cb])] 12 Go.Proofs.Try.func208 Go.Proofs.Try.ntmps208 (hH) fun act0 En0 Hv0 => ?_
 refine wp_seq ?_
 refine region_from ?_
 refine f_o ?_
 refine m_m 147 [uv16 g, .slice ab (List.length b) cb] En0 Hv0 fun ac2 wo3 bk1 En4 Hv5 => ?_
 refine f_e ?_
 refine then_normal ?_
 refine wp_seq ?_
 refine region_from ?_
 refine d_k [0,3,4,5] [] 2 En4 fun ac6 En7 => ?_
 refine f_o ?_
 refine m_l 2 En7 Hv5 fun ac8 En9 => ?_
 refine f_o ?_
 refine c_l [0,1] (M := [.box bw [.slice a (List.length l) c, .bool bad] 115, .vec a c 1 (bys l) 5]) En9 Hv5 (fun hM12 => wu16_go _ bw a c l bad g (by first | omega | (simp only [wput_len, beN_len, List.length_nil, List.length_append]; omega) | (simp [wput_len, beN_len]; done) | (simp [wput_len, beN_len]; omega)) hM12) ?_
 rintro _ wo13 ⟨wa10, wc11, rfl, he14⟩
 refine ⟨_, _, [.box bw [.slice wa10 (List.length ((u16F (l, bad) g).1)) wc11, .bool ((u16F (l, bad) g).2)] 115, .vec wa10 wc11 1 (bys ((u16F (l, bad) g).1)) 5, .box bk1 [uv16 g, .slice ab (List.length b) cb] 147], rfl, he14, by kernel_rfl, fun ac16 En17 Hv18 => ?_⟩
 refine f_e ?_
 refine then_normal ?_
 refine region_from ?_
 refine d_k [0,3,8,9] [] 2 En17 fun ac19 En20 => ?_
 refine f_o ?_
 refine m_l 2 En20 Hv18 fun ac21 En22 => ?_
 refine f_o ?_
 refine c_l [0,1] (M := [.box bw [.slice wa10 (List.length ((u16F (l, bad) g).1)) wc11, .bool ((u16F (l, bad) g).2)] 115, .vec wa10 wc11 1 (bys ((u16F (l, bad) g).1)) 5]) En22 Hv18 (fun hM25 => wlist_go _ bw wa10 wc11 ((u16F (l, bad) g).1) ((u16F (l, bad) g).2) 2 (by omega) 0 65535 (by omega) (by omega) ab cb b ((ib.ev Hv18).pick [0, 1] (by kernel_rfl)) (by first | omega | (simp only [wput_len, beN_len, List.length_nil, List.length_append]; omega) | (simp [wput_len, beN_len]; done) | (simp [wput_len, beN_len]; omega)) hM25) ?_
 rintro _ wo26 ⟨wa23, wc24, rfl, he27⟩
 refine ⟨_, _, [.box bw [.slice wa23 (List.length (wput 2 ((u16F (l, bad) g).1) b)) wc24, .bool (wbad 2 0 65535 (List.length b) ((u16F (l, bad) g).2))] 115, .vec wa23 wc24 1 (bys (wput 2 ((u16F (l, bad) g).1) b)) 5, .box bk1 [uv16 g, .slice ab (List.length b) cb] 147], rfl, he27, by kernel_rfl, fun ac29 En30 Hv31 => ?_⟩
 refine f_e ?_
 refine d_end0 En30 (by kernel_rfl) ?_
 exact ⟨wa23, wc24, rfl, Hv31.pk [0, 1]⟩

theorem all_ext (w : World) (bw : Nat) (a : Option Addr) (c : Nat) (l : Bs) (bad : Bool) (n : Nat) (hn : n ≤ 4) (x : Nat) (hx : x ≤ 4294967295) (al : Option Addr) (cl : Nat) (xs : List RExt) (il : InS fExt 32 (fun y : RExt => (True ∧ (InB w [.box bw [.slice a (List.length l) c, .bool bad] 115, .vec a c 1 (bys l) 5] y.2.1.a y.2.1.c y.2.1.l ∧ (True)))) w [.box bw [.slice a (List.length l) c, .bool bad] 115, .vec a c 1 (bys l) 5] al cl xs) (hfb : ∀ i, i ≤ List.length xs → List.length (allM exF (List.take i (List.map (fun y : RExt => (y.1, y.2.1.l)) xs))).1 ≤ 140737489403904) (hb : List.length l + n + List.length (allM exF (List.map (fun y : RExt => (y.1, y.2.1.l)) xs)).1 ≤ 200000000000000) (hH : Heap w [.box bw [.slice a (List.length l) c, .bool bad] 115, .vec a c 1 (bys l) 5]) : Calls Try.prog 207 #[pt bw, ni n, ni x, .slice al (List.length xs) cl, .func (.func 208) #[] #[]] w fun e w' => ∃ a' c', e = .returned (.tuple #[]) ∧ Ev w [.box bw [.slice a (List.length l) c, .bool bad] 115, .vec a c 1 (bys l) 5] w' [.box bw [.slice a' (List.length (wput n l (allM exF (List.map (fun y : RExt => (y.1, y.2.1.l)) xs)).1)) c', .bool (wbad n x 16777215 (List.length (allM exF (List.map (fun y : RExt => (y.1, y.2.1.l)) xs)).1) (bad || (allM exF (List.map (fun y : RExt => (y.1, y.2.1.l)) xs)).2))] 115, .vec a' c' 1 (bys (wput n l (allM exF (List.map (fun y : RExt => (y.1, y.2.1.l)) xs)).1)) 5] := by
 have hxs := il.small
 have hxc := il.cap
 refine d_0 [(0, pt bw), (1, ni n), (2, ni x), (3, .slice al (List.length xs) cl), (4, .func (.func 208) #[] #[])] 47 Go.Proofs.Try.func207 Go.Proofs.Try.ntmps207 (hH) fun act0 En0 Hv0 => ?_
 refine wp_seq ?_
 refine region_from ?_
 refine d_k [0,1,2,3,4,13] [] 1 En0 fun ac1 En2 => ?_
 refine f_o ?_
 refine m_m 115 [.slice none 0 0, .bool false] En2 Hv0 fun ac4 wo5 bk3 En6 Hv7 => ?_
 refine d_e [0,1,2,3,4,10] [] En6 fun ac8 En9 => ?_
 refine then_normal ?_
 refine wp_seq ?_
 refine wp_seq ?_
 refine d_r [0,1,2,4,10,15,16,17] [] En9 fun ac10 En11 => ?_
 refine then_normal ?_
 refine wp_block ?_
 have Hv12 : Ev w [.box bw [.slice a (List.length l) c, .bool bad] 115, .vec a c 1 (bys l) 5] wo5 [.box bw [.slice a (List.length l) c, .bool bad] 115, .vec a c 1 (bys l) 5, .box bk3 [.slice none 0 0, .bool false] 115, .vec none 0 1 (bys []) 5] := Ev.nil (sz := 1) (T := 5) Hv7
 refine loop_m (fun ms13 ac wo => ∃ (i : Nat) (wa : Option Addr) (wc : Nat) (m : Bs) (bd : Bool), ms13 = (List.length xs + 1 - i : Nat) ∧ Env ac 47 [(0, pt bw), (1, ni n), (2, ni x), (4, .func (.func 208) #[] #[]), (10, pt bk3), (15, .slice al (List.length xs) cl), (16, .int .i64 ((List.length xs : Nat) : Int)), (17, ni i)] ∧ Ev w [.box bw [.slice a (List.length l) c, .bool bad] 115, .vec a c 1 (bys l) 5] wo [.box bw [.slice a (List.length l) c, .bool bad] 115, .vec a c 1 (bys l) 5, .box bk3 [.slice wa (List.length m) wc, .bool bd] 115, .vec wa wc 1 (bys m) 5] ∧ ((m, bd) = allM exF (List.take i (List.map (fun y : RExt => (y.1, y.2.1.l)) xs)))) ⟨_, 0, none, 0, [], false, rfl, En11.sb, Hv12.pk [0, 1, 2, 3], rfl⟩ ?_
 rintro mm19 ac15 wo16 ⟨i, wa, wc, m, bd, rfl, En17, Hv18, hfo⟩
 refine wp_seq ?_
 refine d_r [0,1,2,4,10,15,16,17,18] [] En17 fun ac20 En21 => ?_
 refine then_normal ?_
 refine wp_seq ?_
 refine c_d (((i : Nat) : Int) < ((List.length xs : Nat) : Int)) En21 (fun hc22 => ?_) (fun hc22 => ?_)
 ·
  refine wp_skip ?_
  refine then_normal ?_
  refine wp_seq ?_
  refine wp_block ?_
  refine wp_seq ?_
  have hb25 : i < List.length xs := (by omega)
  obtain ⟨adr23, had24⟩ := some_of il.nz hb25
  have hb26 : i < List.length xs := by omega
  obtain ⟨⟨x28a, ⟨a_x28b, c_x28b, x28b⟩, _⟩, hx27⟩ : ∃ x, (xs)[i]? = some x := ⟨_, List.getElem?_eq_getElem hb26⟩
  obtain ⟨_, i_x28b, _⟩ := il.each _ (List.mem_of_getElem? hx27)
  replace i_x28b : InB w [.box bw [.slice a (List.length l) c, .bool bad] 115, .vec a c 1 (bys l) 5] a_x28b c_x28b x28b := i_x28b
  refine region_from ?_
  refine f_o ?_
  refine q_v (x := Instr.indexAt 36 (.slice al (List.length xs) cl) (ni i)) (v := .pointer (some (Addr.add adr23 (i * 2)))) En21 (Go.Dbr.run_indexsl (e := 147) (sz := 2) (j := i) (jo := i * 2) had24 (by kernel_rfl) (by kernel_rfl) (by omega) hb25 rfl _) fun ac29 En30 => ?_
  refine f_o ?_
  refine op_loadaggat (d := some 20) (t := 147) (ad := adr23) (ao := al) (ys := List.flatMap fExt xs) (o := i * 2) (m := 2) (xs := [uv16 x28a, .slice a_x28b (List.length x28b) c_x28b]) En30 (by kernel_rfl) rfl (il.ro.ev Hv18).reads had24 (fun j hj => ?_) rfl (by kernel_rfl) (by kernel_rfl) ?_
  ·
   exact flat_sub (sz := 2) (off := 0) (m := 2) (fun _ _ => rfl) hx27 (by decide) rfl j hj
  intro ac31 En32
  refine f_o ?_
  refine m_z 147 [.int .u16 0, .slice none 0 0] En32 Hv18 fun ac34 wo35 bk33 En36 Hv37 => ?_
  refine f_o ?_
  refine m_g 4 0 2 [uv16 x28a, .slice a_x28b (List.length x28b) c_x28b] [uv16 x28a, .slice a_x28b (List.length x28b) c_x28b] [.box bw [.slice a (List.length l) c, .bool bad] 115, .vec a c 1 (bys l) 5, .box bk3 [.slice wa (List.length m) wc, .bool bd] 115, .vec wa wc 1 (bys m) 5, .box bk33 [uv16 x28a, .slice a_x28b (List.length x28b) c_x28b] 147] En36 Hv37 rfl rfl (by simp) (one_all (by kernel_rfl)) rfl rfl fun ac38 wo39 En40 Hv41 => ?_
  refine f_e ?_
  refine then_normal ?_
  have hnb := hfb (i + 1) (by omega)
  rw [allM_take hx27, ← hfo] at hnb
  have hnc := hnb
  simp only [exF, wput_len, List.length_append, beN_len] at hnc
  refine region_from ?_
  refine d_k [0,1,2,4,10,12,15,16,17,21,22] [] 2 En40 fun ac42 En43 => ?_
  refine f_o ?_
  refine m_a 4 0 2 [uv16 x28a, .slice a_x28b (List.length x28b) c_x28b] En43 Hv41 rfl rfl rfl fun ac44 En45 => ?_
  refine f_o ?_
  refine c_l [2,3] (M := [.box bk3 [.slice wa (List.length m) wc, .bool bd] 115, .vec wa wc 1 (bys m) 5]) En45 Hv41 (fun hM48 => wext_go _ bk3 wa wc m bd x28a a_x28b c_x28b x28b ((i_x28b.ev Hv41).pick [2, 3] (by kernel_rfl)) (by first | omega | (simp only [wput_len, beN_len, List.length_nil, List.length_append]; omega) | (simp [wput_len, beN_len]; done) | (simp [wput_len, beN_len]; omega)) hM48) ?_
  rintro _ wo49 ⟨wa46, wc47, rfl, he50⟩
  refine ⟨_, _, [.box bk3 [.slice wa46 (List.length ((exF (m, bd) (x28a, x28b)).1)) wc47, .bool ((exF (m, bd) (x28a, x28b)).2)] 115, .vec wa46 wc47 1 (bys ((exF (m, bd) (x28a, x28b)).1)) 5, .box bw [.slice a (List.length l) c, .bool bad] 115, .vec a c 1 (bys l) 5, .box bk33 [uv16 x28a, .slice a_x28b (List.length x28b) c_x28b] 147], rfl, he50, by kernel_rfl, fun ac52 En53 Hv54 => ?_⟩
  refine f_e ?_
  refine block_normal ?_
  refine then_normal ?_
  refine d_r [0,1,2,4,10,12,15,16,17] [(0, g_n (w_a i 1))] En53 fun ac55 En56 => ?_
  refine then_normal ?_
  refine ⟨_, ⟨i + 1, wa46, wc47, ((exF (m, bd) (x28a, x28b)).1), ((exF (m, bd) (x28a, x28b)).2), rfl, En56.sb, Hv54.pk [2, 3, 0, 1], (by rw [allM_take hx27, ← hfo] <;> rfl)⟩, ?_⟩
  omega
 ·
  refine wp_exit ?_
  refine then_exit ?_
  refine then_exit ?_
  refine block_exit ?_
  refine then_normal ?_
  refine wp_seq ?_
  have hfe := allM_all (F := exF) (f := (fun y : RExt => (y.1, y.2.1.l))) (xs := xs) (i := i) (by omega)
  rw [← hfo] at hfe
  refine region_cut (F := fun ac wo => ∃ (b2 : Bool), Env ac 47 [(0, pt bw), (1, ni n), (2, ni x), (4, .func (.func 208) #[] #[]), (10, pt bk3), (15, .slice al (List.length xs) cl), (16, .int .i64 ((List.length xs : Nat) : Int)), (17, ni i)] ∧ Ev w [.box bw [.slice a (List.length l) c, .bool bad] 115, .vec a c 1 (bys l) 5] wo [.box bw [.slice a (List.length l) c, .bool b2] 115, .vec a c 1 (bys l) 5, .box bk3 [.slice wa (List.length m) wc, .bool bd] 115, .vec wa wc 1 (bys m) 5] ∧ (b2 = (bad || bd))) ?_ ?_
  ·
   refine region_from ?_
   refine d_k [0,1,2,4,10,15,16,17,26,29] [] 4 En21 fun ac57 En58 => ?_
   refine f_o ?_
   refine m_l 0 En58 Hv18 fun ac59 En60 => ?_
   refine d_k [0,1,2,4,10,15,16,17,26,31] [] 6 En60 fun ac61 En62 => ?_
   rcases Bool.eq_false_or_eq_true (bad) with hb63 | hb63
   ·
    have En64 := En62.fx (t := 31) (congrArg Value.bool hb63)
    have hp65 : bad = true := hb63
    refine d_k [0,1,2,4,10,15,16,17,36,38] [] 13 En64 fun ac66 En67 => ?_
    refine f_o ?_
    refine m_s 0 [.box bw [.slice a (List.length l) c, .bool true] 115, .vec a c 1 (bys l) 5, .box bk3 [.slice wa (List.length m) wc, .bool bd] 115, .vec wa wc 1 (bys m) 5] En67 Hv18 fun ac68 wo69 En70 Hv71 => ?_
    refine f_e ?_
    exact ⟨rfl, ⟨true, En70.sb, Hv71.pk [0, 1, 2, 3], (by first | exact or_t (by assumption) | exact or_f (by assumption))⟩⟩
   ·
    have En72 := En62.fx (t := 31) (congrArg Value.bool hb63)
    have hp73 : ¬ (bad = true) := Bool.eq_false_iff.1 hb63
    refine d_k [0,1,2,4,10,15,16,17,26,31,34] [] 9 En72 fun ac74 En75 => ?_
    refine f_o ?_
    refine m_l 2 En75 Hv18 fun ac76 En77 => ?_
    refine d_k [0,1,2,4,10,15,16,17,36,38] [] 13 En77 fun ac78 En79 => ?_
    refine f_o ?_
    refine m_s 0 [.box bw [.slice a (List.length l) c, .bool bd] 115, .vec a c 1 (bys l) 5, .box bk3 [.slice wa (List.length m) wc, .bool bd] 115, .vec wa wc 1 (bys m) 5] En79 Hv18 fun ac80 wo81 En82 Hv83 => ?_
    refine f_e ?_
    exact ⟨rfl, ⟨bd, En82.sb, Hv83.pk [0, 1, 2, 3], (by first | exact or_t (by assumption) | exact or_f (by assumption))⟩⟩
  ·
   rintro ac84 wo85 ⟨b2, En86, Hv87, hb2⟩
   refine then_normal ?_
   have hml := hfb (List.length xs) (Nat.le_refl _)
   rw [List.take_of_length_le (by rw [List.length_map]; exact Nat.le_refl _), ← hfe] at hml
   rw [← hfe] at hb
   refine region_from ?_
   refine d_k [0,4,10,15,16,17,39,40,41,44] [] 6 En86 fun ac88 En89 => ?_
   refine f_o ?_
   refine m_l 2 En89 Hv87 fun ac90 En91 => ?_
   refine f_o ?_
   refine c_l [0,1] (M := [.box bw [.slice a (List.length l) c, .bool b2] 115, .vec a c 1 (bys l) 5]) En91 Hv87 (fun hM94 => wlist_go _ bw a c l b2 n (by omega) x 16777215 (by omega) (by omega) wa wc m (bys_in Hv87.heap (k := 3) rfl [0, 1] (by kernel_rfl) rfl (by first | omega | (simp; done) | (simp; omega))) (by first | exact hb | omega) hM94) ?_
   rintro _ wo95 ⟨wa92, wc93, rfl, he96⟩
   refine ⟨_, _, [.box bw [.slice wa92 (List.length (wput n l m)) wc93, .bool (wbad n x 16777215 (List.length m) b2)] 115, .vec wa92 wc93 1 (bys (wput n l m)) 5, .box bk3 [.slice wa (List.length m) wc, .bool bd] 115, .vec wa wc 1 (bys m) 5], rfl, he96, by kernel_rfl, fun ac98 En99 Hv100 => ?_⟩
   refine f_e ?_
   refine d_end0 En99 (by kernel_rfl) ?_
   subst hb2
   rw [← hfe]
   exact ⟨wa92, wc93, rfl, Hv100.pk [0, 1]⟩

theorem wexts1_go (w : World) (tb : Nat) (t g : UInt16) (a2 : Option Addr) (n2 c2 : Nat) (ab : Option Addr) (cb : Nat) (b : Bs) (ib : InB w [.box tb [uv16 t, .slice a2 n2 c2] 147] ab cb b) (hH : Heap w [.box tb [uv16 t, .slice a2 n2 c2] 147]) : Calls Try.prog 206 #[.agg #[uv16 g, .slice ab (List.length b) cb], pt tb] w fun e w' => e = .returned (.bool (((UInt16.toNat g : Nat) : Int) == ((UInt16.toNat t : Nat) : Int))) ∧ Ev w [.box tb [uv16 t, .slice a2 n2 c2] 147] w' [.box tb [uv16 t, .slice a2 n2 c2] 147] := by
 refine d_0 [(0, .agg #[uv16 g, .slice ab (List.length b) cb]), (1, pt tb)] 9 Go.Proofs.Try.func206 Go.Proofs.Try.ntmps206 (hH) fun act0 En0 Hv0 => ?_
 refine wp_seq ?_
 refine region_from ?_
 refine f_o ?_
 refine m_m 147 [uv16 g, .slice ab (List.length b) cb] En0 Hv0 fun ac2 wo3 bk1 En4 Hv5 => ?_
 refine d_e [1,2,3] [] En4 fun ac6 En7 => ?_
 refine then_normal ?_
 refine wp_seq ?_
 refine region_from ?_
 refine d_k [1,3,4] [] 1 En7 fun ac8 En9 => ?_
 refine f_o ?_
 refine m_l 1 En9 Hv5 fun ac10 En11 => ?_
 refine d_k [3,5,6] [] 3 En11 fun ac12 En13 => ?_
 refine f_o ?_
 refine m_l 0 En13 Hv5 fun ac14 En15 => ?_
 refine d_e [3] [] En15 fun ac16 En17 => ?_
 refine then_normal ?_
 refine wp_ret ?_
 refine d_ret1 (t := 3) (v := .bool (((UInt16.toNat g : Nat) : Int) == ((UInt16.toNat t : Nat) : Int))) En17 (by kernel_rfl) (by kernel_rfl) ?_
 exact ⟨rfl, Hv5.pk [0]⟩

theorem windexe_go (w : World) (tb : Nat) (t : UInt16) (a2 : Option Addr) (n2 c2 : Nat) (al : Option Addr) (cl : Nat) (xs : List RExt) (il : InS fExt 32 (fun y : RExt => (True ∧ (InB w [.box tb [uv16 t, .slice a2 n2 c2] 147] y.2.1.a y.2.1.c y.2.1.l ∧ (True)))) w [.box tb [uv16 t, .slice a2 n2 c2] 147] al cl xs) (hH : Heap w [.box tb [uv16 t, .slice a2 n2 c2] 147]) : Calls Try.prog 133 #[.slice al (List.length xs) cl, .func (.func 206) #[] #[pt tb]] w fun e w' => e = .returned (.int .i64 (fdI t (List.map (fun y : RExt => (y.1, y.2.1.l)) xs))) ∧ Ev w [.box tb [uv16 t, .slice a2 n2 c2] 147] w' [.box tb [uv16 t, .slice a2 n2 c2] 147] := by
 refine d_0 [(0, .slice al (List.length xs) cl), (1, .func (.func 206) #[] #[pt tb])] 19 Go.Proofs.Try.func133 Go.Proofs.Try.ntmps133 (hH) fun act0 En0 Hv0 => ?_
 refine wp_seq ?_
 refine d_r [0,1,4] [] En0 fun ac1 En2 => ?_
 refine then_normal ?_
 refine wp_seq ?_
 refine wp_seq ?_
 refine d_r [0,1,4,7,8] [] En2 fun ac3 En4 => ?_
 refine then_normal ?_
 refine wp_block ?_
 refine loop_m (fun ms5 ac wo => ∃ (i : Nat), ms5 = (List.length xs + 1 - i : Nat) ∧ Env ac 19 [(0, .slice al (List.length xs) cl), (1, .func (.func 206) #[] #[pt tb]), (7, .int .i64 ((List.length xs : Nat) : Int)), (8, ni i)] ∧ Ev w [.box tb [uv16 t, .slice a2 n2 c2] 147] wo [.box tb [uv16 t, .slice a2 n2 c2] 147] ∧ (fdN t (List.map (fun y : RExt => (y.1, y.2.1.l)) xs) = i + fdN t (List.drop i (List.map (fun y : RExt => (y.1, y.2.1.l)) xs)))) ⟨_, 0, rfl, En4.sb, Hv0.pk [0], (by rw [List.drop_zero, Nat.zero_add])⟩ ?_
 rintro mm11 ac7 wo8 ⟨i, rfl, En9, Hv10, hfi⟩
 refine wp_seq ?_
 refine d_r [0,1,7,8,9] [] En9 fun ac12 En13 => ?_
 refine then_normal ?_
 refine wp_seq ?_
 refine c_d (((i : Nat) : Int) < ((List.length xs : Nat) : Int)) En13 (fun hc14 => ?_) (fun hc14 => ?_)
 ·
  refine wp_skip ?_
  refine then_normal ?_
  refine wp_seq ?_
  refine wp_block ?_
  refine wp_seq ?_
  refine d_r [0,1,5,7,8] [] En13 fun ac15 En16 => ?_
  refine then_normal ?_
  refine wp_seq ?_
  have hzl := il.small
  have hb19 : i < List.length xs := (by omega)
  obtain ⟨adr17, had18⟩ := some_of il.nz hb19
  have hb20 : i < List.length xs := by omega
  obtain ⟨⟨x22a, ⟨a_x22b, c_x22b, x22b⟩, _⟩, hx21⟩ : ∃ x, (xs)[i]? = some x := ⟨_, List.getElem?_eq_getElem hb20⟩
  obtain ⟨_, i_x22b, _⟩ := il.each _ (List.mem_of_getElem? hx21)
  replace i_x22b : InB w [.box tb [uv16 t, .slice a2 n2 c2] 147] a_x22b c_x22b x22b := i_x22b
  refine region_from ?_
  refine d_k [0,1,5,7,8,11,12,13] [] 3 En16 fun ac23 En24 => ?_
  refine f_o ?_
  refine q_v (x := Instr.indexAt 36 (.slice al (List.length xs) cl) (ni i)) (v := .pointer (some (Addr.add adr17 (i * 2)))) En24 (Go.Dbr.run_indexsl (e := 147) (sz := 2) (j := i) (jo := i * 2) had18 (by kernel_rfl) (by kernel_rfl) (by omega) hb19 rfl _) fun ac25 En26 => ?_
  refine f_o ?_
  refine op_loadaggat (d := some 15) (t := 147) (ad := adr17) (ao := al) (ys := List.flatMap fExt xs) (o := i * 2) (m := 2) (xs := [uv16 x22a, .slice a_x22b (List.length x22b) c_x22b]) En26 (by kernel_rfl) rfl (il.ro.ev Hv10).reads had18 (fun j hj => ?_) rfl (by kernel_rfl) (by kernel_rfl) ?_
  ·
   exact flat_sub (sz := 2) (off := 0) (m := 2) (fun _ _ => rfl) hx21 (by decide) rfl j hj
  intro ac27 En28
  refine f_o ?_
  refine c_l [0] (M := [.box tb [uv16 t, .slice a2 n2 c2] 147]) En28 Hv10 (fun hM29 => wexts1_go _ tb t x22a a2 n2 c2 a_x22b c_x22b x22b ((i_x22b.ev Hv10).pick [0] (by kernel_rfl)) hM29) ?_
  rintro _ wo30 ⟨rfl, he31⟩
  refine ⟨_, _, [.box tb [uv16 t, .slice a2 n2 c2] 147], rfl, he31, by kernel_rfl, fun ac33 En34 Hv35 => ?_⟩
  refine f_e ?_
  refine then_normal ?_
  refine cond_at En34 (t := ((UInt16.toNat x22a : Nat) : Int) == ((UInt16.toNat t : Nat) : Int)) (by kernel_rfl) (fun hc36 => ?_) (fun hc36 => ?_)
  ·
   replace hc36 : ((UInt16.toNat x22a : Nat) : Int) = ((UInt16.toNat t : Nat) : Int) := eq_of_beq hc36
   refine wp_seq ?_
   refine d_r [0,1,4,5,7,8] [] En34 fun ac37 En38 => ?_
   refine then_normal ?_
   refine wp_ret ?_
   refine block_ret ?_
   refine then_ret ?_
   refine then_ret ?_
   refine block_ret ?_
   refine then_ret ?_
   refine d_ret1 (t := 4) (v := ni i) En38 (by kernel_rfl) (by kernel_rfl) ?_
   obtain ⟨hN, hP⟩ := fd_hit (f := (fun y : RExt => (y.1, y.2.1.l))) hfi hx21 (u16_eq (by assumption))
   have hL : fdN t (List.map (fun y : RExt => (y.1, y.2.1.l)) xs) < List.length (List.map (fun y : RExt => (y.1, y.2.1.l)) xs) := by rw [hN, List.length_map]; omega
   exact ⟨congrArg (fun z => Ending.returned (Value.int .i64 z)) (by rw [fdI_y hL, hN]), Hv35.pk [0]⟩
  ·
   replace hc36 : ¬ (((UInt16.toNat x22a : Nat) : Int) = ((UInt16.toNat t : Nat) : Int)) := ne_of_beq_false hc36
   refine wp_skip ?_
   refine block_normal ?_
   refine then_normal ?_
   refine d_r [0,1,5,7,8] [(0, g_n (w_a i 1))] En34 fun ac39 En40 => ?_
   refine then_normal ?_
   refine ⟨_, ⟨i + 1, rfl, En40.sb, Hv35.pk [0], (fd_go hfi hx21 (fun g => absurd (congrArg (fun z : UInt16 => ((UInt16.toNat z : Nat) : Int)) g) (by assumption)))⟩, ?_⟩
   omega
 ·
  refine wp_exit ?_
  refine then_exit ?_
  refine then_exit ?_
  refine block_exit ?_
  refine then_normal ?_
  refine wp_seq ?_
  refine d_r [0,1,4,7,8] [] En13 fun ac41 En42 => ?_
  refine then_normal ?_
  refine wp_ret ?_
  refine d_ret1 (t := 4) (v := .int .i64 (-1)) En42 (by kernel_rfl) (by kernel_rfl) ?_
  exact ⟨congrArg (fun z => Ending.returned (Value.int .i64 z)) (fdI_n (fd_end hfi (by omega))).symm, Hv10.pk [0]⟩

theorem wcontf_go (w : World) (tb : Nat) (t : UInt16) (a2 : Option Addr) (n2 c2 : Nat) (n : Nat) (al : Option Addr) (cl : Nat) (xs : List RExt) (il : InS fExt 32 (fun y : RExt => (True ∧ (InB w [.box tb [uv16 t, .slice a2 n2 c2] 147] y.2.1.a y.2.1.c y.2.1.l ∧ (True)))) w [.box tb [uv16 t, .slice a2 n2 c2] 147] al cl xs) (en : n = List.length xs) (hH : Heap w [.box tb [uv16 t, .slice a2 n2 c2] 147]) : Calls Try.prog 205 #[.slice al n cl, .func (.func 206) #[] #[pt tb]] w fun e w' => e = .returned (.bool (hasE t (List.map (fun y : RExt => (y.1, y.2.1.l)) xs))) ∧ Ev w [.box tb [uv16 t, .slice a2 n2 c2] 147] w' [.box tb [uv16 t, .slice a2 n2 c2] 147] := by
 subst en
 refine d_0 [(0, .slice al (List.length xs) cl), (1, .func (.func 206) #[] #[pt tb])] 9 Go.Proofs.Try.func205 Go.Proofs.Try.ntmps205 (hH) fun act0 En0 Hv0 => ?_
 refine d_s [0,1,4] [] En0 fun ac1 En2 => ?_
 refine wp_seq ?_
 refine region_from ?_
 refine d_k [4,5,6] [] 2 En2 fun ac3 En4 => ?_
 refine f_o ?_
 refine c_l [0] (M := [.box tb [uv16 t, .slice a2 n2 c2] 147]) En4 Hv0 (fun hM5 => windexe_go _ tb t a2 n2 c2 al cl xs (il.go Hv0 [0] (by kernel_rfl) (fun _ h => ⟨h.1, (InB.ev h.2.1 Hv0).pick [0] (by kernel_rfl), h.2.2⟩)) hM5) ?_
 rintro _ wo6 ⟨rfl, he7⟩
 refine ⟨_, _, [.box tb [uv16 t, .slice a2 n2 c2] 147], rfl, he7, by kernel_rfl, fun ac9 En10 Hv11 => ?_⟩
 refine d_e [4] [(3, g_v (show (.bool (decide (fdI t (List.map (fun y : RExt => (y.1, y.2.1.l)) xs) ≥ (0 : Int))) : Value) = .bool (hasE t (List.map (fun y : RExt => (y.1, y.2.1.l)) xs)) by rw [fdI_ge t (List.map (fun y : RExt => (y.1, y.2.1.l)) xs)] <;> rfl))] En10 fun ac12 En13 => ?_
 refine then_normal ?_
 refine wp_ret ?_
 refine d_ret1 (t := 4) (v := .bool (hasE t (List.map (fun y : RExt => (y.1, y.2.1.l)) xs))) En13 (by kernel_rfl) (by kernel_rfl) ?_
 exact ⟨rfl, Hv11.pk [0]⟩

theorem wexts_go (w : World) (bw : Nat) (a : Option Addr) (c : Nat) (l : Bs) (bad : Bool) (al : Option Addr) (cl : Nat) (xs : List RExt) (il : InS fExt 32 (fun y : RExt => (True ∧ (InB w [.box bw [.slice a (List.length l) c, .bool bad] 115, .vec a c 1 (bys l) 5] y.2.1.a y.2.1.c y.2.1.l ∧ (True)))) w [.box bw [.slice a (List.length l) c, .bool bad] 115, .vec a c 1 (bys l) 5] al cl xs) (hq0 : List.length (allM exF (List.map (fun y : RExt => (y.1, y.2.1.l)) xs)).1 ≤ 140737489403904) (hb : List.length l + 2 + List.length (allM exF (List.map (fun y : RExt => (y.1, y.2.1.l)) xs)).1 ≤ 200000000000000) (hH : Heap w [.box bw [.slice a (List.length l) c, .bool bad] 115, .vec a c 1 (bys l) 5]) : Calls Try.prog 179 #[pt bw, .slice al (List.length xs) cl] w fun e w' => ∃ a' c', e = .returned (.tuple #[]) ∧ Ev w [.box bw [.slice a (List.length l) c, .bool bad] 115, .vec a c 1 (bys l) 5] w' [.box bw [.slice a' (List.length ((wexF (l, bad) (List.map (fun y : RExt => (y.1, y.2.1.l)) xs)).1)) c', .bool ((wexF (l, bad) (List.map (fun y : RExt => (y.1, y.2.1.l)) xs)).2)] 115, .vec a' c' 1 (bys ((wexF (l, bad) (List.map (fun y : RExt => (y.1, y.2.1.l)) xs)).1)) 5] := by
 refine d_0 [(0, pt bw), (1, .slice al (List.length xs) cl)] 31 Go.Proofs.Try.func179 Go.Proofs.Try.ntmps179 (hH) fun act0 En0 Hv0 => ?_
 refine wp_seq ?_
 refine wp_seq ?_
 refine d_r [0,1,6,7,8] [] En0 fun ac1 En2 => ?_
 refine then_normal ?_
 refine wp_block ?_
 refine loop_m (fun ms3 ac wo => ∃ (i : Nat) (od : Bool), ms3 = (List.length xs - i : Nat) ∧ Env ac 31 [(0, pt bw), (1, .slice al (List.length xs) cl), (6, .slice al (List.length xs) cl), (7, .int .i64 ((List.length xs : Nat) : Int)), (8, ni i)] ∧ Ev w [.box bw [.slice a (List.length l) c, .bool bad] 115, .vec a c 1 (bys l) 5] wo [.box bw [.slice a (List.length l) c, .bool od] 115, .vec a c 1 (bys l) 5] ∧ (i ≤ List.length xs) ∧ (od = (bad || dupN (List.map (fun y : RExt => (y.1, y.2.1.l)) xs) i))) ⟨_, 0, bad, rfl, En2.sb, Hv0.pk [0, 1], (Nat.zero_le _), (by rw [dupN, Bool.or_false])⟩ ?_
 rintro mm9 ac5 wo6 ⟨i, od, rfl, En7, Hv8, hil, hod⟩
 refine wp_seq ?_
 have hzl := il.small
 have hzc := il.cap
 refine d_r [0,1,6,7,8,9] [] En7 fun ac10 En11 => ?_
 refine then_normal ?_
 refine wp_seq ?_
 refine c_d (((i : Nat) : Int) < ((List.length xs : Nat) : Int)) En11 (fun hc12 => ?_) (fun hc12 => ?_)
 ·
  refine wp_skip ?_
  refine then_normal ?_
  refine wp_seq ?_
  refine wp_block ?_
  refine wp_seq ?_
  have hb15 : i < List.length xs := (by omega)
  obtain ⟨adr13, had14⟩ := some_of il.nz hb15
  have hb16 : i < List.length xs := by omega
  obtain ⟨⟨x18a, ⟨a_x18b, c_x18b, x18b⟩, _⟩, hx17⟩ : ∃ x, (xs)[i]? = some x := ⟨_, List.getElem?_eq_getElem hb16⟩
  obtain ⟨_, i_x18b, _⟩ := il.each _ (List.mem_of_getElem? hx17)
  replace i_x18b : InB w [.box bw [.slice a (List.length l) c, .bool bad] 115, .vec a c 1 (bys l) 5] a_x18b c_x18b x18b := i_x18b
  refine region_from ?_
  refine d_k [0,1,6,7,8,10] [] 1 En11 fun ac19 En20 => ?_
  refine f_o ?_
  refine q_v (x := Instr.indexAt 36 (.slice al (List.length xs) cl) (ni i)) (v := .pointer (some (Addr.add adr13 (i * 2)))) En20 (Go.Dbr.run_indexsl (e := 147) (sz := 2) (j := i) (jo := i * 2) had14 (by kernel_rfl) (by kernel_rfl) (by omega) hb15 rfl _) fun ac21 En22 => ?_
  refine f_o ?_
  refine op_loadaggat (d := some 12) (t := 147) (ad := adr13) (ao := al) (ys := List.flatMap fExt xs) (o := i * 2) (m := 2) (xs := [uv16 x18a, .slice a_x18b (List.length x18b) c_x18b]) En22 (by kernel_rfl) rfl (il.ro.ev Hv8).reads had14 (fun j hj => ?_) rfl (by kernel_rfl) (by kernel_rfl) ?_
  ·
   exact flat_sub (sz := 2) (off := 0) (m := 2) (fun _ _ => rfl) hx17 (by decide) rfl j hj
  intro ac23 En24
  refine f_o ?_
  refine m_z 147 [.int .u16 0, .slice none 0 0] En24 Hv8 fun ac26 wo27 bk25 En28 Hv29 => ?_
  refine d_k [0,1,4,5,6,7,8,12] [] 5 En28 fun ac30 En31 => ?_
  refine f_o ?_
  refine m_g 2 0 2 [uv16 x18a, .slice a_x18b (List.length x18b) c_x18b] [uv16 x18a, .slice a_x18b (List.length x18b) c_x18b] [.box bw [.slice a (List.length l) c, .bool od] 115, .vec a c 1 (bys l) 5, .box bk25 [uv16 x18a, .slice a_x18b (List.length x18b) c_x18b] 147] En31 Hv29 rfl rfl (by simp) (one_all (by kernel_rfl)) rfl rfl fun ac32 wo33 En34 Hv35 => ?_
  refine f_e ?_
  refine then_normal ?_
  refine region_from ?_
  refine d_k [0,1,4,5,6,7,8,13,16] [] 4 En34 fun ac36 En37 => ?_
  refine f_o ?_
  refine m_l 0 En37 Hv35 fun ac38 En39 => ?_
  refine d_k [0,1,4,5,6,7,8,13,18] [] 6 En39 fun ac40 En41 => ?_
  rcases Bool.eq_false_or_eq_true (od) with hb42 | hb42
  ·
   have En43 := En41.fx (t := 18) (congrArg Value.bool hb42)
   have hp44 : od = true := hb42
   refine d_k [0,1,5,6,7,8,24,26] [] 14 En43 fun ac45 En46 => ?_
   refine f_o ?_
   refine m_s 0 [.box bw [.slice a (List.length l) c, .bool true] 115, .vec a c 1 (bys l) 5, .box bk25 [uv16 x18a, .slice a_x18b (List.length x18b) c_x18b] 147] En46 Hv35 fun ac47 wo48 En49 Hv50 => ?_
   refine f_e ?_
   refine block_normal ?_
   refine then_normal ?_
   refine d_r [0,1,5,6,7,8] [(0, g_n (w_a i 1))] En49 fun ac51 En52 => ?_
   refine then_normal ?_
   refine ⟨_, ⟨i + 1, true, rfl, En52.sb, Hv50.pk [0, 1], (by omega), (dup_t (show (List.map (fun y : RExt => (y.1, y.2.1.l)) xs)[i]? = some ((fun y : RExt => (y.1, y.2.1.l)) (x18a, ⟨a_x18b, c_x18b, x18b⟩, ())) from by rw [List.getElem?_map, hx17]; rfl) hod hp44)⟩, ?_⟩
   omega
  ·
   have En53 := En41.fx (t := 18) (congrArg Value.bool hb42)
   have hp54 : ¬ (od = true) := Bool.eq_false_iff.1 hb42
   refine d_k [0,1,5,6,7,8,13,18,19,20] [] 8 En53 fun ac55 En56 => ?_
   refine f_o ?_
   refine op_slice0 (d := some 21) (t := 36) (e := 147) (sz := 2) (len := List.length xs) (cap := cl) (hi := i) (ao := al) (lov := none) (hiv := (some (ni i))) En56 (by kernel_rfl) (by kernel_rfl) (by kernel_rfl) (by omega) (.inl ⟨rfl, rfl⟩) (.inr ⟨.i64, rfl⟩) ?_
   intro ac57 En58
   refine d_k [0,1,5,6,7,8,13,18,21,22] [] 10 En58 fun ac59 En60 => ?_
   refine f_o ?_
   refine c_l [2] (M := [.box bk25 [uv16 x18a, .slice a_x18b (List.length x18b) c_x18b] 147]) En60 Hv35 (fun hM61 => wcontf_go _ bk25 x18a a_x18b (List.length x18b) c_x18b i al cl (List.take i xs) ((il.go Hv35 [2] (by kernel_rfl) (fun _ h => ⟨h.1, (InB.ev h.2.1 Hv35).pick [2] (by kernel_rfl), h.2.2⟩)).take i) (by rw [List.length_take]; omega) hM61) ?_
   rintro _ wo62 ⟨rfl, he63⟩
   refine ⟨_, _, [.box bk25 [uv16 x18a, .slice a_x18b (List.length x18b) c_x18b] 147, .box bw [.slice a (List.length l) c, .bool od] 115, .vec a c 1 (bys l) 5], rfl, he63, by kernel_rfl, fun ac65 En66 Hv67 => ?_⟩
   refine d_k [0,1,5,6,7,8,24,26] [] 14 En66 fun ac68 En69 => ?_
   refine f_o ?_
   refine m_s 1 [.box bk25 [uv16 x18a, .slice a_x18b (List.length x18b) c_x18b] 147, .box bw [.slice a (List.length l) c, .bool (hasE x18a (List.map (fun y : RExt => (y.1, y.2.1.l)) (List.take i xs)))] 115, .vec a c 1 (bys l) 5] En69 Hv67 fun ac70 wo71 En72 Hv73 => ?_
   refine f_e ?_
   refine block_normal ?_
   refine then_normal ?_
   refine d_r [0,1,5,6,7,8] [(0, g_n (w_a i 1))] En72 fun ac74 En75 => ?_
   refine then_normal ?_
   refine ⟨_, ⟨i + 1, hasE x18a (List.map (fun y : RExt => (y.1, y.2.1.l)) (List.take i xs)), rfl, En75.sb, Hv73.pk [1, 2], (by omega), (by rw [List.map_take]; exact dup_f (show (List.map (fun y : RExt => (y.1, y.2.1.l)) xs)[i]? = some ((fun y : RExt => (y.1, y.2.1.l)) (x18a, ⟨a_x18b, c_x18b, x18b⟩, ())) from by rw [List.getElem?_map, hx17]; rfl) hod hp54)⟩, ?_⟩
   omega
 ·
  refine wp_exit ?_
  refine then_exit ?_
  refine then_exit ?_
  refine block_exit ?_
  refine then_normal ?_
  have hfo := dup_all hod (by rw [List.length_map]; omega)
  subst hfo
  refine region_from ?_
  refine d_k [0,1,6,7,8,28,29] [] 2 En11 fun ac76 En77 => ?_
  refine f_o ?_
  refine c_l [0,1] (M := [.box bw [.slice a (List.length l) c, .bool (bad || dupA (List.map (fun y : RExt => (y.1, y.2.1.l)) xs))] 115, .vec a c 1 (bys l) 5]) En77 Hv8 (fun hM80 => all_ext _ bw a c l (bad || dupA (List.map (fun y : RExt => (y.1, y.2.1.l)) xs)) 2 (by omega) 0 (by omega) al cl xs (il.go Hv8 [0, 1] (by kernel_rfl) (fun _ h => ⟨h.1, (InB.ev h.2.1 Hv8).pick [0, 1] (by kernel_rfl), h.2.2⟩)) (fun i _ => Nat.le_trans (allM_mono exF_len _ i) hq0) (by omega) hM80) ?_
  rintro _ wo81 ⟨wa78, wc79, rfl, he82⟩
  refine ⟨_, _, [.box bw [.slice wa78 (List.length (wput 2 l (allM exF (List.map (fun y : RExt => (y.1, y.2.1.l)) xs)).1)) wc79, .bool (wbad 2 0 16777215 (List.length (allM exF (List.map (fun y : RExt => (y.1, y.2.1.l)) xs)).1) ((bad || dupA (List.map (fun y : RExt => (y.1, y.2.1.l)) xs)) || (allM exF (List.map (fun y : RExt => (y.1, y.2.1.l)) xs)).2))] 115, .vec wa78 wc79 1 (bys (wput 2 l (allM exF (List.map (fun y : RExt => (y.1, y.2.1.l)) xs)).1)) 5], rfl, he82, by kernel_rfl, fun ac84 En85 Hv86 => ?_⟩
  refine f_e ?_
  refine d_end0 En85 (by kernel_rfl) ?_
  exact ⟨wa78, wc79, rfl, Hv86.pk [0, 1]⟩

end Go.Proofs.Ytofecellbfhnjaa

/- Layer 17: messages with extensions are written by the document. -/


namespace Go.Proofs.Ytofecellbfhnjaa
open Go.Dbr
set_option maxRecDepth 100000
set_option maxHeartbeats 2000000
set_option linter.unusedVariables false
set_option linter.unusedSimpArgs false

def dexF (p : WS) (x : EX) : WS := (dput 2 0 65535 (p.1 ++ beN 2 x.1.toNat) x.2, p.2 || dbad 2 0 65535 x.2.length)
def wdexF (p : WS) (ps : List EX) : WS := (dput 2 0 16777215 p.1 (allM dexF ps).1, (p.2 || ((allM dexF ps).2 || dupA ps)) || dbad 2 0 16777215 (allM dexF ps).1.length)
def dreqF (p : WS) (x : Bs × List EX) : WS := wdexF (dput 1 0 255 p.1 x.1, p.2 || dbad 1 0 255 x.1.length) x.2
def dticF (p : WS) (x : UInt32 × UInt32 × Bs × Bs × List EX) : WS := wdexF (dput 2 1 65535 (dput 1 0 255 ((p.1 ++ beN 4 x.1.toNat) ++ beN 4 x.2.1.toNat) x.2.2.1) x.2.2.2.1, (p.2 || dbad 1 0 255 x.2.2.1.length) || dbad 2 1 65535 x.2.2.2.1.length) x.2.2.2.2
def dcrF (p : WS) (x : CE) : WS := wdexF (dput 3 1 16777215 p.1 x.1, p.2 || dbad 3 1 16777215 x.1.length) x.2
def dcertF (p : WS) (x : Bs × List CE) : WS := (dput 3 0 16777215 (dput 1 0 255 p.1 x.1) (allM dcrF x.2).1, ((p.2 || dbad 1 0 255 x.1.length) || (allM dcrF x.2).2) || dbad 3 0 16777215 (allM dcrF x.2).1.length)
def dexsP (ps : List EX) : Bs := doneL (wdexF ([], false) ps).2 (wdexF ([], false) ps).1
def dreqP (x : Bs × List EX) : Bs := doneL (dreqF ([], false) x).2 (dreqF ([], false) x).1
def dverP (x : EX) : Bs := doneL (dexF ([], false) x).2 (dexF ([], false) x).1
def dticP (x : UInt32 × UInt32 × Bs × Bs × List EX) : Bs := doneL (dticF ([], false) x).2 (dticF ([], false) x).1
def dcertP (x : Bs × List CE) : Bs := doneL (dcertF ([], false) x).2 (dcertF ([], false) x).1
theorem fold_le {β : Type} {F G : WS → β → WS} (h : ∀ p q x, p.1.length ≤ q.1.length → (F p x).1.length ≤ (G q x).1.length) : ∀ (ps : List β) (p q : WS), p.1.length ≤ q.1.length → (List.foldl F p ps).1.length ≤ (List.foldl G q ps).1.length
  | [], _, _, e => e
  | x :: r, p, q, e => fold_le h r (F p x) (G q x) (h p q x e)
theorem allM_le {β : Type} {F G : WS → β → WS} (h : ∀ p q x, p.1.length ≤ q.1.length → (F p x).1.length ≤ (G q x).1.length) (ps : List β) : (allM F ps).1.length ≤ (allM G ps).1.length := fold_le h ps _ _ (Nat.le_refl _)
theorem dexF_le (p q : WS) (x : EX) (h : p.1.length ≤ q.1.length) : (dexF p x).1.length ≤ (exF q x).1.length := by
  have h1 := dput_len 2 0 65535 (p.1 ++ beN 2 x.1.toNat) x.2
  rw [List.length_append, beN_len] at h1
  rw [exF, wput_len, List.length_append, beN_len]
  show List.length (dput 2 0 65535 (p.1 ++ beN 2 x.1.toNat) x.2) ≤ _
  omega
theorem dcrF_le (p q : WS) (x : CE) (h : p.1.length ≤ q.1.length) : (dcrF p x).1.length ≤ (crF q x).1.length := by
  have h1 := dput_len 3 1 16777215 p.1 x.1
  have h2 := dput_len 2 0 16777215 (dput 3 1 16777215 p.1 x.1) (allM dexF x.2).1
  have h3 := allM_le dexF_le x.2
  simp only [crF, wexF, wput_len]
  show List.length (dput 2 0 16777215 (dput 3 1 16777215 p.1 x.1) (allM dexF x.2).1) ≤ _
  omega
theorem dex_i {ps : List EX} (i : Nat) : (allM dexF (List.take i ps)).1.length ≤ (allM exF ps).1.length := Nat.le_trans (allM_le dexF_le _) (allM_mono exF_len _ i)
theorem dex_step {α : Type} {f : α → EX} {xs : List α} {i : Nat} {x : α} {m : Bs} {bd od : Bool} (hx : xs[i]? = some x) (hm : m = (allM dexF (List.take i (List.map f xs))).1) (hbd : bd = ((allM dexF (List.take i (List.map f xs))).2 || dupN (List.map f xs) i)) (hod : od = (bd || hasE (f x).1 (List.take i (List.map f xs)))) :
    dput 2 0 65535 (m ++ beN 2 (f x).1.toNat) (f x).2 = (allM dexF (List.take (i + 1) (List.map f xs))).1 ∧ (od || dbad 2 0 65535 (f x).2.length) = ((allM dexF (List.take (i + 1) (List.map f xs))).2 || dupN (List.map f xs) (i + 1)) := by
  have hp : (List.map f xs)[i]? = some (f x) := by rw [List.getElem?_map, hx]; rfl
  rw [allM_take hx, dup_s hp, hm, hod, hbd]
  refine ⟨rfl, ?_⟩
  show _ = (((allM dexF (List.take i (List.map f xs))).2 || dbad 2 0 65535 (f x).2.length) || _)
  cases (allM dexF (List.take i (List.map f xs))).2 <;> cases dupN (List.map f xs) i <;> cases hasE (f x).1 (List.take i (List.map f xs)) <;> cases dbad 2 0 65535 (f x).2.length <;> rfl

theorem dwexts_go (w : World) (bw : Nat) (a : Option Addr) (c : Nat) (l : Bs) (bad : Bool) (al : Option Addr) (cl : Nat) (xs : List RExt) (il : InS fExt 32 (fun y : RExt => (True ∧ (InB w [.box bw [.slice a (List.length l) c, .bool bad] 126, .vec a c 1 (bys l) 5] y.2.1.a y.2.1.c y.2.1.l ∧ (True)))) w [.box bw [.slice a (List.length l) c, .bool bad] 126, .vec a c 1 (bys l) 5] al cl xs) (hb : List.length l + 2 + List.length (allM exF (List.map (fun y : RExt => (y.1, y.2.1.l)) xs)).1 ≤ 140737489403904) (hH : Heap w [.box bw [.slice a (List.length l) c, .bool bad] 126, .vec a c 1 (bys l) 5]) : Calls Try.prog 181 #[pt bw, .slice al (List.length xs) cl] w fun e w' => ∃ a' c', e = .returned (.tuple #[]) ∧ Ev w [.box bw [.slice a (List.length l) c, .bool bad] 126, .vec a c 1 (bys l) 5] w' [.box bw [.slice a' (List.length ((wdexF (l, bad) (List.map (fun y : RExt => (y.1, y.2.1.l)) xs)).1)) c', .bool ((wdexF (l, bad) (List.map (fun y : RExt => (y.1, y.2.1.l)) xs)).2)] 126, .vec a' c' 1 (bys ((wdexF (l, bad) (List.map (fun y : RExt => (y.1, y.2.1.l)) xs)).1)) 5] := by
 refine d_0 [(0, pt bw), (1, .slice al (List.length xs) cl)] 58 Go.Proofs.Try.func181 Go.Proofs.Try.ntmps181 (hH) fun act0 En0 Hv0 => ?_
 refine wp_seq ?_
 refine region_from ?_
 refine d_k [0,1,7] [] 1 En0 fun ac1 En2 => ?_
 refine f_o ?_
 refine m_m 126 [.slice none 0 0, .bool false] En2 Hv0 fun ac4 wo5 bk3 En6 Hv7 => ?_
 refine d_e [0,1,4] [] En6 fun ac8 En9 => ?_
 refine then_normal ?_
 refine wp_seq ?_
 refine wp_seq ?_
 refine d_r [0,1,4,5] [] En9 fun ac10 En11 => ?_
 refine then_normal ?_
 refine wp_block ?_
 have Hv12 : Ev w [.box bw [.slice a (List.length l) c, .bool bad] 126, .vec a c 1 (bys l) 5] wo5 [.box bw [.slice a (List.length l) c, .bool bad] 126, .vec a c 1 (bys l) 5, .box bk3 [.slice none 0 0, .bool false] 126, .vec none 0 1 (bys []) 5] := Ev.nil (sz := 1) (T := 5) Hv7
 refine loop_m (fun ms13 ac wo => ∃ (i : Nat) (wa0 : Option Addr) (wc0 : Nat) (m0 : Bs) (bd0 : Bool), ms13 = (List.length xs + 1 - i : Nat) ∧ Env ac 58 [(0, pt bw), (1, .slice al (List.length xs) cl), (4, pt bk3), (5, ni i)] ∧ Ev w [.box bw [.slice a (List.length l) c, .bool bad] 126, .vec a c 1 (bys l) 5] wo [.box bk3 [.slice wa0 (List.length m0) wc0, .bool bd0] 126, .vec wa0 wc0 1 (bys m0) 5, .box bw [.slice a (List.length l) c, .bool bad] 126, .vec a c 1 (bys l) 5] ∧ (i ≤ List.length xs) ∧ (m0 = (allM dexF (List.take i (List.map (fun y : RExt => (y.1, y.2.1.l)) xs))).1) ∧ (bd0 = ((allM dexF (List.take i (List.map (fun y : RExt => (y.1, y.2.1.l)) xs))).2 || dupN (List.map (fun y : RExt => (y.1, y.2.1.l)) xs) i))) ⟨_, 0, none, 0, [], false, rfl, En11.sb, Hv12.pk [2, 3, 0, 1], (Nat.zero_le _), rfl, rfl⟩ ?_
 rintro mm19 ac15 wo16 ⟨i, wa0, wc0, m0, bd0, rfl, En17, Hv18, hil, hm0, hbd⟩
 refine wp_seq ?_
 refine wp_seq ?_
 have hzl := il.small
 refine d_r [0,1,4,5,12] [] En17 fun ac20 En21 => ?_
 refine then_normal ?_
 refine c_d (((i : Nat) : Int) < ((List.length xs : Nat) : Int)) En21 (fun hc22 => ?_) (fun hc22 => ?_)
 ·
  refine wp_skip ?_
  refine then_normal ?_
  refine wp_seq ?_
  refine wp_block ?_
  refine wp_seq ?_
  refine wp_seq ?_
  have hb23 : i < List.length xs := by omega
  obtain ⟨⟨x25a, ⟨a_x25b, c_x25b, x25b⟩, _⟩, hx24⟩ : ∃ x, (xs)[i]? = some x := ⟨_, List.getElem?_eq_getElem hb23⟩
  obtain ⟨_, i_x25b, _⟩ := il.each _ (List.mem_of_getElem? hx24)
  replace i_x25b : InB w [.box bw [.slice a (List.length l) c, .bool bad] 126, .vec a c 1 (bys l) 5] a_x25b c_x25b x25b := i_x25b
  have hml : List.length m0 ≤ List.length (allM exF (List.take i (List.map (fun y : RExt => (y.1, y.2.1.l)) xs))).1 := by rw [hm0]; exact allM_le dexF_le _
  have hnx := allM_mono exF_len (List.map (fun y : RExt => (y.1, y.2.1.l)) xs) (i + 1)
  rw [allM_take hx24] at hnx
  simp only [exF, wput_len, List.length_append, beN_len] at hnx
  have hds := i_x25b.small
  have hgl := UInt16.toNat_lt x25a
  refine d_r [0,1,4,5,6] [] En21 fun ac26 En27 => ?_
  refine then_normal ?_
  refine wp_block ?_
  refine loop_m (fun ms28 ac wo => ∃ (k : Nat) (od2 : Bool), ms28 = (i - k : Nat) ∧ Env ac 58 [(0, pt bw), (1, .slice al (List.length xs) cl), (4, pt bk3), (5, ni i), (6, ni k)] ∧ Ev w [.box bw [.slice a (List.length l) c, .bool bad] 126, .vec a c 1 (bys l) 5] wo [.box bk3 [.slice wa0 (List.length m0) wc0, .bool od2] 126, .vec wa0 wc0 1 (bys m0) 5, .box bw [.slice a (List.length l) c, .bool bad] 126, .vec a c 1 (bys l) 5] ∧ (k ≤ i) ∧ (od2 = (bd0 || hasE (x25a) (List.take k (List.map (fun y : RExt => (y.1, y.2.1.l)) xs))))) ⟨_, 0, bd0, rfl, En27.sb, Hv18.pk [0, 1, 2, 3], (Nat.zero_le _), (by rw [List.take_zero]; exact (Bool.or_false _).symm)⟩ ?_
  rintro mm34 ac30 wo31 ⟨k, od2, rfl, En32, Hv33, hkl, ho2⟩
  refine wp_seq ?_
  refine wp_seq ?_
  refine d_r [0,1,4,5,6,17] [] En32 fun ac35 En36 => ?_
  refine then_normal ?_
  refine c_d (((k : Nat) : Int) < ((i : Nat) : Int)) En36 (fun hc37 => ?_) (fun hc37 => ?_)
  ·
   refine wp_skip ?_
   refine then_normal ?_
   refine wp_seq ?_
   refine wp_block ?_
   have hb38 : k < List.length xs := by omega
   obtain ⟨⟨x40a, ⟨a_x40b, c_x40b, x40b⟩, _⟩, hx39⟩ : ∃ x, (xs)[k]? = some x := ⟨_, List.getElem?_eq_getElem hb38⟩
   obtain ⟨_, i_x40b, _⟩ := il.each _ (List.mem_of_getElem? hx39)
   replace i_x40b : InB w [.box bw [.slice a (List.length l) c, .bool bad] 126, .vec a c 1 (bys l) 5] a_x40b c_x40b x40b := i_x40b
   rcases Bool.eq_false_or_eq_true (od2) with hb41 | hb41
   ·
    have hb41p : od2 = true := hb41
    refine r_c (fun ac wo => Env ac 58 [(0, pt bw), (1, .slice al (List.length xs) cl), (4, pt bk3), (5, ni i), (6, ni k)] ∧ Ev w [.box bw [.slice a (List.length l) c, .bool bad] 126, .vec a c 1 (bys l) 5] wo [.box bk3 [.slice wa0 (List.length m0) wc0, .bool true] 126, .vec wa0 wc0 1 (bys m0) 5, .box bw [.slice a (List.length l) c, .bool bad] 126, .vec a c 1 (bys l) 5]) ?_ ?_
    ·
     refine draw_any (by kernel_rfl) 21 (by kernel_rfl) ?_
     have wo42 := Hv33.trans (Ev.drew Hv33.heap)
     refine q_a [0,1,2,3] [] 17 En36 fun ac57 En58 => ?_
     refine q_u 4 ?_
     refine m_l 0 En58 wo42 fun ac59 En60 => ?_
     refine q_a [5] [] 15 En60 fun ac61 En62 => ?_
     have En63 := En62.fx (t := 24) (congrArg Value.bool hb41)
     have En64 := En63.fx (t := 25) (congrArg Value.bool hb41)
     refine q_a [6,7,8,9,10,11,12,13,14,15,16,17,18,19] [] 1 En64 fun ac65 En66 => ?_
     refine q_u 20 ?_
     refine m_s 0 [.box bk3 [.slice wa0 (List.length m0) wc0, .bool true] 126, .vec wa0 wc0 1 (bys m0) 5, .box bw [.slice a (List.length l) c, .bool bad] 126, .vec a c 1 (bys l) 5] En66 wo42 fun ac67 wo68 En69 Hv70 => ?_
     exact a_e ⟨En69.sb, Hv70.pk [0, 1, 2, 3]⟩
    rintro ac71 wo72 ⟨En73, Hv74⟩
    refine block_normal ?_
    refine then_normal ?_
    refine d_r [0,1,4,5,6] [(1, g_n (w_a k 1))] En73 fun ac75 En76 => ?_
    refine then_normal ?_
    refine ⟨_, ⟨k + 1, true, rfl, En76.sb, Hv74.pk [0, 1, 2, 3], (by omega), (has_t (show (List.map (fun y : RExt => (y.1, y.2.1.l)) xs)[k]? = some ((fun y : RExt => (y.1, y.2.1.l)) (x40a, ⟨a_x40b, c_x40b, x40b⟩, ())) from by rw [List.getElem?_map, hx39]; rfl) ho2 hb41p)⟩, ?_⟩
    omega
   ·
    have hb41p : ¬ (od2 = true) := Bool.eq_false_iff.1 hb41
    refine r_c (fun ac wo => Env ac 58 [(0, pt bw), (1, .slice al (List.length xs) cl), (4, pt bk3), (5, ni i), (6, ni k)] ∧ Ev w [.box bw [.slice a (List.length l) c, .bool bad] 126, .vec a c 1 (bys l) 5] wo [.box bk3 [.slice wa0 (List.length m0) wc0, .bool (((UInt16.toNat x40a : Nat) : Int) == ((UInt16.toNat x25a : Nat) : Int))] 126, .vec wa0 wc0 1 (bys m0) 5, .box bw [.slice a (List.length l) c, .bool bad] 126, .vec a c 1 (bys l) 5]) ?_ ?_
    ·
     refine h_s (fun wv => Ev w [.box bw [.slice a (List.length l) c, .bool bad] 126, .vec a c 1 (bys l) 5] wv [.box bk3 [.slice wa0 (List.length m0) wc0, .bool od2] 126]) [20] 21 ?_
     have wo77 := Hv33.trans (Ev.drew Hv33.heap)
     refine q_s [0,1,2,3] [] 17 En36 (wo77.pk [0]) fun ac158 En159 => ?_
     refine q_l 0 4 En159 (wo77.pk [0]) fun ac160 En161 => ?_
     refine q_s [5] [] 15 En161 (wo77.pk [0]) fun ac162 En163 => ?_
     have En164 := En163.fx (t := 24) (congrArg Value.bool hb41)
     have En165 := En164.fx (t := 25) (congrArg Value.bool hb41)
     have hb168 : k < List.length xs := (by omega)
     obtain ⟨adr166, had167⟩ := some_of il.nz hb168
     refine q_s [6,7] [] 13 En165 (wo77.pk [0]) fun ac169 En170 => ?_
     refine q_f 8 (s := Instr.indexAt 36 (.slice al (List.length xs) cl) (ni k)) (v := .pointer (some (Addr.add adr166 (k * 2)))) En170 (fun _ => Go.Dbr.run_indexsl (e := 147) (sz := 2) (j := k) (jo := k * 2) had167 (by kernel_rfl) (by kernel_rfl) (by omega) hb168 rfl _) (fun _ => wo77.pk [0]) fun ac171 En172 => ?_
     refine q_s [9] [] 11 En172 (wo77.pk [0]) fun ac173 En174 => ?_
     refine q_r 10 (s := Instr.loadAt 37 (.pointer (some (Addr.add adr166 (k * 2))))) (v := uv16 x40a) En174 (fun w hS => run_loadel (ad := adr166) (o := k * 2) rfl (il.ro.ev hS).reads had167 ((flat_get (sz := 2) (j := 0) (fun _ _ => rfl) hx39 (by decide)).trans rfl) (by kernel_rfl)) (wo77.pk [0]) fun ac175 En176 => ?_
     have hb179 : i < List.length xs := (by omega)
     obtain ⟨adr177, had178⟩ := some_of il.nz hb179
     refine q_s [11,12] [] 8 En176 (wo77.pk [0]) fun ac180 En181 => ?_
     refine q_f 13 (s := Instr.indexAt 36 (.slice al (List.length xs) cl) (ni i)) (v := .pointer (some (Addr.add adr177 (i * 2)))) En181 (fun _ => Go.Dbr.run_indexsl (e := 147) (sz := 2) (j := i) (jo := i * 2) had178 (by kernel_rfl) (by kernel_rfl) (by omega) hb179 rfl _) (fun _ => wo77.pk [0]) fun ac182 En183 => ?_
     refine q_s [14] [] 6 En183 (wo77.pk [0]) fun ac184 En185 => ?_
     refine q_r 15 (s := Instr.loadAt 37 (.pointer (some (Addr.add adr177 (i * 2))))) (v := uv16 x25a) En185 (fun w hS => run_loadel (ad := adr177) (o := i * 2) rfl (il.ro.ev hS).reads had178 ((flat_get (sz := 2) (j := 0) (fun _ _ => rfl) hx24 (by decide)).trans rfl) (by kernel_rfl)) (wo77.pk [0]) fun ac186 En187 => ?_
     refine q_s [16,17,18,19] [] 1 En187 (wo77.pk [0]) fun ac188 En189 => ?_
     refine q_t 20 ?_
     refine m_s 0 [.box bk3 [.slice wa0 (List.length m0) wc0, .bool (((UInt16.toNat x40a : Nat) : Int) == ((UInt16.toNat x25a : Nat) : Int))] 126, .vec wa0 wc0 1 (bys m0) 5, .box bw [.slice a (List.length l) c, .bool bad] 126, .vec a c 1 (bys l) 5] En189 wo77 fun ac190 wo191 En192 Hv193 => ?_
     refine ⟨q_y, ?_⟩
     exact h_e ⟨En192.sb, Hv193.pk [0, 1, 2, 3]⟩
    rintro ac194 wo195 ⟨En196, Hv197⟩
    refine block_normal ?_
    refine then_normal ?_
    refine d_r [0,1,4,5,6] [(1, g_n (w_a k 1))] En196 fun ac198 En199 => ?_
    refine then_normal ?_
    refine ⟨_, ⟨k + 1, (((UInt16.toNat x40a : Nat) : Int) == ((UInt16.toNat x25a : Nat) : Int)), rfl, En199.sb, Hv197.pk [0, 1, 2, 3], (by omega), (has_f (show (List.map (fun y : RExt => (y.1, y.2.1.l)) xs)[k]? = some ((fun y : RExt => (y.1, y.2.1.l)) (x40a, ⟨a_x40b, c_x40b, x40b⟩, ())) from by rw [List.getElem?_map, hx39]; rfl) ho2 hb41p)⟩, ?_⟩
    omega
  ·
   refine wp_exit ?_
   refine then_exit ?_
   refine then_exit ?_
   refine block_exit ?_
   refine then_normal ?_
   refine wp_seq ?_
   have hki : k = i := by omega
   rw [hki] at ho2
   have hb202 : i < List.length xs := (by omega)
   obtain ⟨adr200, had201⟩ := some_of il.nz hb202
   refine region_from ?_
   refine d_k [0,1,4,5,6,40,41,42] [] 3 En36 fun ac203 En204 => ?_
   refine f_o ?_
   refine q_v (x := Instr.indexAt 36 (.slice al (List.length xs) cl) (ni i)) (v := .pointer (some (Addr.add adr200 (i * 2)))) En204 (Go.Dbr.run_indexsl (e := 147) (sz := 2) (j := i) (jo := i * 2) had201 (by kernel_rfl) (by kernel_rfl) (by omega) hb202 rfl _) fun ac205 En206 => ?_
   refine d_k [0,1,4,5,6,40,44] [] 5 En206 fun ac207 En208 => ?_
   refine f_o ?_
   refine op_loadf (d := some 45) (t := 37) (ad := adr200) (ao := al) (ys := List.flatMap fExt xs) (o := i * 2) (v := uv16 x25a) En208 (by kernel_rfl) rfl (il.ro.ev Hv33).reads had201 ((flat_get (sz := 2) (j := 0) (fun _ _ => rfl) hx24 (by decide)).trans rfl) (by kernel_rfl) ?_
   intro ac209 En210
   refine d_k [0,1,4,5,6,40,46] [(6, g_i .i64 (Go.Dbr.u16_to_i64 (x := x25a) rfl))] 7 En210 fun ac211 En212 => ?_
   refine f_o ?_
   refine c_l [0,1] (M := [.box bk3 [.slice wa0 (List.length m0) wc0, .bool od2] 126, .vec wa0 wc0 1 (bys m0) 5]) En212 Hv33 (fun hM215 => dwnum_go _ bk3 wa0 wc0 m0 od2 2 (by omega) (UInt16.toNat x25a) (by omega) (by first | omega | (simp only [u16F, beN_len, List.length_nil, List.length_append]; omega) | (simp only [wput_len, beN_len, List.length_nil, List.length_append]; omega) | (simp [wput_len, beN_len]; done) | (simp [wput_len, beN_len]; omega)) hM215) ?_
   rintro _ wo216 ⟨wa213, wc214, rfl, he217⟩
   refine ⟨_, _, [.box bk3 [.slice wa213 (List.length (m0 ++ beN 2 (UInt16.toNat x25a))) wc214, .bool od2] 126, .vec wa213 wc214 1 (bys (m0 ++ beN 2 (UInt16.toNat x25a))) 5, .box bw [.slice a (List.length l) c, .bool bad] 126, .vec a c 1 (bys l) 5], rfl, he217, by kernel_rfl, fun ac219 En220 Hv221 => ?_⟩
   refine f_e ?_
   refine then_normal ?_
   have hb224 : i < List.length xs := (by omega)
   obtain ⟨adr222, had223⟩ := some_of il.nz hb224
   refine region_from ?_
   refine d_k [0,1,4,5,6,48,49,50] [] 3 En220 fun ac225 En226 => ?_
   refine f_o ?_
   refine q_v (x := Instr.indexAt 36 (.slice al (List.length xs) cl) (ni i)) (v := .pointer (some (Addr.add adr222 (i * 2)))) En226 (Go.Dbr.run_indexsl (e := 147) (sz := 2) (j := i) (jo := i * 2) had223 (by kernel_rfl) (by kernel_rfl) (by omega) hb224 rfl _) fun ac227 En228 => ?_
   refine d_k [0,1,4,5,6,48,52] [] 5 En228 fun ac229 En230 => ?_
   refine f_o ?_
   refine op_loadf (d := some 53) (t := 23) (ad := adr222) (ao := al) (ys := List.flatMap fExt xs) (o := i * 2 + 1) (v := .slice a_x25b (List.length x25b) c_x25b) En230 (by kernel_rfl) (Deep.add_add _ _ _) (il.ro.ev Hv221).reads had223 ((flat_get (sz := 2) (j := 1) (fun _ _ => rfl) hx24 (by decide)).trans rfl) (by kernel_rfl) ?_
   intro ac231 En232
   refine f_o ?_
   refine c_l [0,1] (M := [.box bk3 [.slice wa213 (List.length (m0 ++ beN 2 (UInt16.toNat x25a))) wc214, .bool od2] 126, .vec wa213 wc214 1 (bys (m0 ++ beN 2 (UInt16.toNat x25a))) 5]) En232 Hv221 (fun hM235 => dwlist_go _ bk3 wa213 wc214 (m0 ++ beN 2 (UInt16.toNat x25a)) od2 2 (by omega) 0 65535 (by omega) (by omega) a_x25b c_x25b x25b ((i_x25b.ev Hv221).pick [0, 1] (by kernel_rfl)) (by first | omega | (simp only [u16F, beN_len, List.length_nil, List.length_append]; omega) | (simp only [wput_len, beN_len, List.length_nil, List.length_append]; omega) | (simp [wput_len, beN_len]; done) | (simp [wput_len, beN_len]; omega)) hM235) ?_
   rintro _ wo236 ⟨wa233, wc234, rfl, he237⟩
   refine ⟨_, _, [.box bk3 [.slice wa233 (List.length (dput 2 0 65535 (m0 ++ beN 2 (UInt16.toNat x25a)) x25b)) wc234, .bool (od2 || dbad 2 0 65535 (List.length x25b))] 126, .vec wa233 wc234 1 (bys (dput 2 0 65535 (m0 ++ beN 2 (UInt16.toNat x25a)) x25b)) 5, .box bw [.slice a (List.length l) c, .bool bad] 126, .vec a c 1 (bys l) 5], rfl, he237, by kernel_rfl, fun ac239 En240 Hv241 => ?_⟩
   refine f_e ?_
   refine block_normal ?_
   refine then_normal ?_
   refine d_r [0,1,4,5,6] [(1, g_n (w_a i 1))] En240 fun ac242 En243 => ?_
   refine then_normal ?_
   refine ⟨_, ⟨i + 1, wa233, wc234, (dput 2 0 65535 (m0 ++ beN 2 (UInt16.toNat x25a)) x25b), (od2 || dbad 2 0 65535 (List.length x25b)), rfl, En243.sb, Hv241.pk [0, 1, 2, 3], (by omega), (dex_step (f := (fun y : RExt => (y.1, y.2.1.l))) hx24 hm0 hbd ho2).1, (dex_step (f := (fun y : RExt => (y.1, y.2.1.l))) hx24 hm0 hbd ho2).2⟩, ?_⟩
   omega
 ·
  refine wp_exit ?_
  refine then_exit ?_
  refine then_exit ?_
  refine block_exit ?_
  refine then_normal ?_
  have hdl := dex_i (ps := (List.map (fun y : RExt => (y.1, y.2.1.l)) xs)) i
  rw [List.take_of_length_le (by rw [List.length_map]; omega)] at hm0 hbd hdl
  have hie : i = List.length (List.map (fun y : RExt => (y.1, y.2.1.l)) xs) := by rw [List.length_map]; omega
  rw [hie] at hbd
  subst hm0
  have hbd : bd0 = ((allM dexF (List.map (fun y : RExt => (y.1, y.2.1.l)) xs)).2 || dupA (List.map (fun y : RExt => (y.1, y.2.1.l)) xs)) := hbd
  subst hbd
  refine region_from ?_
  refine d_k [1,4,5,55,56] [] 2 En21 fun ac244 En245 => ?_
  refine f_o ?_
  refine c_l [2,3,0,1] (M := [.box bw [.slice a (List.length l) c, .bool bad] 126, .vec a c 1 (bys l) 5, .box bk3 [.slice wa0 (List.length ((allM dexF (List.map (fun y : RExt => (y.1, y.2.1.l)) xs)).1)) wc0, .bool ((allM dexF (List.map (fun y : RExt => (y.1, y.2.1.l)) xs)).2 || dupA (List.map (fun y : RExt => (y.1, y.2.1.l)) xs))] 126, .vec wa0 wc0 1 (bys ((allM dexF (List.map (fun y : RExt => (y.1, y.2.1.l)) xs)).1)) 5]) En245 Hv18 (fun hM248 => dpartw_go _ bw a c l bad bk3 wa0 wc0 ((allM dexF (List.map (fun y : RExt => (y.1, y.2.1.l)) xs)).1) ((allM dexF (List.map (fun y : RExt => (y.1, y.2.1.l)) xs)).2 || dupA (List.map (fun y : RExt => (y.1, y.2.1.l)) xs)) 2 (by omega) 0 (by omega) (by first | omega | (simp only [u16F, beN_len, List.length_nil, List.length_append]; omega) | (simp only [wput_len, beN_len, List.length_nil, List.length_append]; omega) | (simp [wput_len, beN_len]; done) | (simp [wput_len, beN_len]; omega)) hM248) ?_
  rintro _ wo249 ⟨wa246, wc247, rfl, he250⟩
  refine ⟨_, _, [.box bw [.slice wa246 (List.length (dput 2 0 16777215 l ((allM dexF (List.map (fun y : RExt => (y.1, y.2.1.l)) xs)).1))) wc247, .bool ((bad || ((allM dexF (List.map (fun y : RExt => (y.1, y.2.1.l)) xs)).2 || dupA (List.map (fun y : RExt => (y.1, y.2.1.l)) xs))) || dbad 2 0 16777215 (List.length ((allM dexF (List.map (fun y : RExt => (y.1, y.2.1.l)) xs)).1)))] 126, .vec wa246 wc247 1 (bys (dput 2 0 16777215 l ((allM dexF (List.map (fun y : RExt => (y.1, y.2.1.l)) xs)).1))) 5, .box bk3 [.slice wa0 (List.length ((allM dexF (List.map (fun y : RExt => (y.1, y.2.1.l)) xs)).1)) wc0, .bool ((allM dexF (List.map (fun y : RExt => (y.1, y.2.1.l)) xs)).2 || dupA (List.map (fun y : RExt => (y.1, y.2.1.l)) xs))] 126, .vec wa0 wc0 1 (bys ((allM dexF (List.map (fun y : RExt => (y.1, y.2.1.l)) xs)).1)) 5], rfl, he250, by kernel_rfl, fun ac252 En253 Hv254 => ?_⟩
  refine f_e ?_
  refine d_end0 En253 (by kernel_rfl) ?_
  exact ⟨wa246, wc247, rfl, Hv254.pk [0, 1]⟩

end Go.Proofs.Ytofecellbfhnjaa
