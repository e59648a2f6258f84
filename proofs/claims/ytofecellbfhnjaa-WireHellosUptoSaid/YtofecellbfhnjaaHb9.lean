import Derived.Test.YtofecellbfhnjaaHb7
import Derived.Test.YtofecellbfhnjaaHb6
import Derived.Test.YtofecellbfhnjaaHb8
/- Layer 17: certificates are read, by both. -/

namespace Go.Proofs.Ytofecellbfhnjaa
open Go.Dbr
set_option maxRecDepth 100000
set_option maxHeartbeats 2000000
set_option linter.unusedVariables false
set_option linter.unusedSimpArgs false

end Go.Proofs.Ytofecellbfhnjaa

/- Layer 17: extensions, requests, tickets, certificates are written by the program. -/


namespace Go.Proofs.Ytofecellbfhnjaa
open Go.Dbr
set_option maxRecDepth 100000
set_option maxHeartbeats 2000000
set_option linter.unusedVariables false
set_option linter.unusedSimpArgs false

def exF (p : WS) (x : EX) : WS := (wput 2 (p.1 ++ beN 2 x.1.toNat) x.2, wbad 2 0 65535 x.2.length p.2)
def wexF (p : WS) (ps : List EX) : WS := (wput 2 p.1 (allM exF ps).1, wbad 2 0 16777215 (allM exF ps).1.length ((p.2 || dupA ps) || (allM exF ps).2))
theorem exF_len (p : WS) (x : EX) : p.1.length ≤ (exF p x).1.length := by rw [exF, wput_len, List.length_append]; omega
theorem fold_mono {β : Type} {F : WS → β → WS} (h : ∀ p x, p.1.length ≤ (F p x).1.length) : ∀ (ps : List β) (p : WS), p.1.length ≤ (List.foldl F p ps).1.length
  | [], _ => Nat.le_refl _
  | x :: r, p => Nat.le_trans (h p x) (fold_mono h r (F p x))
theorem allM_mono {β : Type} {F : WS → β → WS} (h : ∀ p x, p.1.length ≤ (F p x).1.length) (ps : List β) (i : Nat) : (allM F (List.take i ps)).1.length ≤ (allM F ps).1.length := by
  have e : allM F ps = List.foldl F (allM F (List.take i ps)) (List.drop i ps) := by
    rw [allM, allM, ← List.foldl_append, List.take_append_drop]
  rw [e]
  exact fold_mono h _ _
theorem wext_go (w : World) (bw : Nat) (a : Option Addr) (c : Nat) (l : Bs) (bad : Bool) (g : UInt16) (ab : Option Addr) (cb : Nat) (b : Bs) (ib : InB w [.box bw [.slice a (List.length l) c, .bool bad] 115, .vec a c 1 (bys l) 5] ab cb b) (hb : List.length l + 4 + List.length b ≤ 200000000000000) (hH : Heap w [.box bw [.slice a (List.length l) c, .bool bad] 115, .vec a c 1 (bys l) 5]) : Calls Try.prog 208 #[pt bw, .agg #[uv16 g, .slice ab (List.length b) cb]] w fun e w' => ∃ a' c', e = .returned (.tuple #[]) ∧ Ev w [.box bw [.slice a (List.length l) c, .bool bad] 115, .vec a c 1 (bys l) 5] w' [.box bw [.slice a' (List.length ((exF (l, bad) (g, b)).1)) c', .bool ((exF (l, bad) (g, b)).2)] 115, .vec a' c' 1 (bys ((exF (l, bad) (g, b)).1)) 5] := by
 have hbs := ib.small
 have hl1 : List.length (u16F (l, bad) g).1 = List.length l + 2 := by rw [u16F, List.length_append, beN_len]
 refine d_0 [(0, pt bw), (1, .agg #[uv16 g, .slice ab (List.length b) cb])] 12 Go.Proofs.Try.func208 Go.Proofs.Try.ntmps208 (hH) fun act0 En0 Hv0 => ?_
 refine wp_seq ?_
 refine region_from ?_
 refine f_o ?_
 refine m_m 147 [uv16 g, .slice ab (List.length b) cb] En0 Hv0 fun ac2 wo3 bk1 En4 Hv5 => ?_
 refine f_e ?_
 refine then_normal ?_
 refine wp_seq ?_
 refine region_from ?_
 refine d_k [0,3,4,5] [] 2 En4 fun ac6 En7 => ?_
 refine f_o ?_
 refine m_l 2 En7 Hv5 fun ac8 En9 => ?_
 refine f_o ?_
 refine c_l [0,1] (M := [.box bw [.slice a (List.length l) c, .bool bad] 115, .vec a c 1 (bys l) 5]) En9 Hv5 (fun hM12 => wu16_go _ bw a c l bad g (by first | omega | (simp only [wput_len, beN_len, List.length_nil, List.length_append]; omega) | (simp [wput_len, beN_len]; done) | (simp [wput_len, beN_len]; omega)) hM12) ?_
 rintro _ wo13 ⟨wa10, wc11, rfl, he14⟩
 refine ⟨_, _, [.box bw [.slice wa10 (List.length ((u16F (l, bad) g).1)) wc11, .bool ((u16F (l, bad) g).2)] 115, .vec wa10 wc11 1 (bys ((u16F (l, bad) g).1)) 5, .box bk1 [uv16 g, .slice ab (List.length b) cb] 147], rfl, he14, by kernel_rfl, fun ac16 En17 Hv18 => ?_⟩
 refine f_e ?_
 refine then_normal ?_
 refine region_from ?_
 refine d_k [0,3,8,9] [] 2 En17 fun ac19 En20 => ?_
 refine f_o ?_
 refine m_l 2 En20 Hv18 fun ac21 En22 => ?_
 refine f_o ?_
 refine c_l [0,1] (M := [.box bw [.slice wa10 (List.length ((u16F (l, bad) g).1)) wc11, .bool ((u16F (l, bad) g).2)] 115, .vec wa10 wc11 1 (bys ((u16F (l, bad) g).1)) 5]) En22 Hv18 (fun hM25 => wlist_go _ bw wa10 wc11 ((u16F (l, bad) g).1) ((u16F (l, bad) g).2) 2 (by omega) 0 65535 (by omega) (by omega) ab cb b ((ib.ev Hv18).pick [0, 1] (by kernel_rfl)) (by first | omega | (simp only [wput_len, beN_len, List.length_nil, List.length_append]; omega) | (simp [wput_len, beN_len]; done) | (simp [wput_len, beN_len]; omega)) hM25) ?_
 rintro _ wo26 ⟨wa23, wc24, rfl, he27⟩
 refine ⟨_, _, [.box bw [.slice wa23 (List.length (wput 2 ((u16F (l, bad) g).1) b)) wc24, .bool (wbad 2 0 65535 (List.length b) ((u16F (l, bad) g).2))] 115, .vec wa23 wc24 1 (bys (wput 2 ((u16F (l, bad) g).1) b)) 5, .box bk1 [uv16 g, .slice ab (List.length b) cb] 147], rfl, he27, by kernel_rfl, fun ac29 En30 Hv31 => ?_⟩
 refine f_e ?_
 refine d_end0 En30 (by kernel_rfl) ?_
 exact ⟨wa23, wc24, rfl, Hv31.pk [0, 1]⟩

theorem all_ext (w : World) (bw : Nat) (a : Option Addr) (c : Nat) (l : Bs) (bad : Bool) (n : Nat) (hn : n ≤ 4) (x : Nat) (hx : x ≤ 4294967295) (al : Option Addr) (cl : Nat) (xs : List RExt) (il : InS fExt 32 (fun y : RExt => (True ∧ (InB w [.box bw [.slice a (List.length l) c, .bool bad] 115, .vec a c 1 (bys l) 5] y.2.1.a y.2.1.c y.2.1.l ∧ (True)))) w [.box bw [.slice a (List.length l) c, .bool bad] 115, .vec a c 1 (bys l) 5] al cl xs) (hfb : ∀ i, i ≤ List.length xs → List.length (allM exF (List.take i (List.map (fun y : RExt => (y.1, y.2.1.l)) xs))).1 ≤ 140737489403904) (hb : List.length l + n + List.length (allM exF (List.map (fun y : RExt => (y.1, y.2.1.l)) xs)).1 ≤ 200000000000000) (hH : Heap w [.box bw [.slice a (List.length l) c, .bool bad] 115, .vec a c 1 (bys l) 5]) : Calls Try.prog 207 #[pt bw, ni n, ni x, .slice al (List.length xs) cl, .func (.func 208) #[] #[]] w fun e w' => ∃ a' c', e = .returned (.tuple #[]) ∧ Ev w [.box bw [.slice a (List.length l) c, .bool bad] 115, .vec a c 1 (bys l) 5] w' [.box bw [.slice a' (List.length (wput n l (allM exF (List.map (fun y : RExt => (y.1, y.2.1.l)) xs)).1)) c', .bool (wbad n x 16777215 (List.length (allM exF (List.map (fun y : RExt => (y.1, y.2.1.l)) xs)).1) (bad || (allM exF (List.map (fun y : RExt => (y.1, y.2.1.l)) xs)).2))] 115, .vec a' c' 1 (bys (wput n l (allM exF (List.map (fun y : RExt => (y.1, y.2.1.l)) xs)).1)) 5] := by
 have hxs := il.small
 have hxc := il.cap
 refine d_0 [(0, pt bw), (1, ni n), (2, ni x), (3, .slice al (List.length xs) cl), (4, .func (.func 208) #[] #[])] 47 Go.Proofs.Try.func207 Go.Proofs.Try.ntmps207 (hH) fun act0 En0 Hv0 => ?_
 refine wp_seq ?_
 refine region_from ?_
 refine d_k [0,1,2,3,4,13] [] 1 En0 fun ac1 En2 => ?_
 refine f_o ?_
 refine m_m 115 [.slice none 0 0, .bool false] En2 Hv0 fun ac4 wo5 bk3 En6 Hv7 => ?_
 refine d_e [0,1,2,3,4,10] [] En6 fun ac8 En9 => ?_
 refine then_normal ?_
 refine wp_seq ?_
 refine wp_seq ?_
 refine d_r [0,1,2,4,10,15,16,17] [] En9 fun ac10 En11 => ?_
 refine then_normal ?_
 refine wp_block ?_
 have Hv12 : Ev w [.box bw [.slice a (List.length l) c, .bool bad] 115, .vec a c 1 (bys l) 5] wo5 [.box bw [.slice a (List.length l) c, .bool bad] 115, .vec a c 1 (bys l) 5, .box bk3 [.slice none 0 0, .bool false] 115, .vec none 0 1 (bys []) 5] := Ev.nil (sz := 1) (T := 5) Hv7
 refine loop_m (fun ms13 ac wo => ∃ (i : Nat) (wa : Option Addr) (wc : Nat) (m : Bs) (bd : Bool), ms13 = (List.length xs + 1 - i : Nat) ∧ Env ac 47 [(0, pt bw), (1, ni n), (2, ni x), (4, .func (.func 208) #[] #[]), (10, pt bk3), (15, .slice al (List.length xs) cl), (16, .int .i64 ((List.length xs : Nat) : Int)), (17, ni i)] ∧ Ev w [.box bw [.slice a (List.length l) c, .bool bad] 115, .vec a c 1 (bys l) 5] wo [.box bw [.slice a (List.length l) c, .bool bad] 115, .vec a c 1 (bys l) 5, .box bk3 [.slice wa (List.length m) wc, .bool bd] 115, .vec wa wc 1 (bys m) 5] ∧ ((m, bd) = allM exF (List.take i (List.map (fun y : RExt => (y.1, y.2.1.l)) xs)))) ⟨_, 0, none, 0, [], false, rfl, En11.sb, Hv12.pk [0, 1, 2, 3], rfl⟩ ?_
 rintro mm19 ac15 wo16 ⟨i, wa, wc, m, bd, rfl, En17, Hv18, hfo⟩
 refine wp_seq ?_
 refine d_r [0,1,2,4,10,15,16,17,18] [] En17 fun ac20 En21 => ?_
 refine then_normal ?_
 refine wp_seq ?_
 refine c_d (((i : Nat) : Int) < ((List.length xs : Nat) : Int)) En21 (fun hc22 => ?_) (fun hc22 => ?_)
 ·
  refine wp_skip ?_
  refine then_normal ?_
  refine wp_seq ?_
  refine wp_block ?_
  refine wp_seq ?_
  have hb25 : i < List.length xs := (by omega)
  obtain ⟨adr23, had24⟩ := some_of il.nz hb25
  have hb26 : i < List.length xs := by omega
  obtain ⟨⟨x28a, ⟨a_x28b, c_x28b, x28b⟩, _⟩, hx27⟩ : ∃ x, (xs)[i]? = some x := ⟨_, List.getElem?_eq_getElem hb26⟩
  obtain ⟨_, i_x28b, _⟩ := il.each _ (List.mem_of_getElem? hx27)
  replace i_x28b : InB w [.box bw [.slice a (List.length l) c, .bool bad] 115, .vec a c 1 (bys l) 5] a_x28b c_x28b x28b := i_x28b
  refine region_from ?_
  refine f_o ?_
  refine q_v (x := Instr.indexAt 36 (.slice al (List.length xs) cl) (ni i)) (v := .pointer (some (Addr.add adr23 (i * 2)))) En21 (Go.Dbr.run_indexsl (e := 147) (sz := 2) (j := i) (jo := i * 2) had24 (by kernel_rfl) (by kernel_rfl) (by omega) hb25 rfl _) fun ac29 En30 => ?_
  refine f_o ?_
  refine op_loadaggat (d := some 20) (t := 147) (ad := adr23) (ao := al) (ys := List.flatMap fExt xs) (o := i * 2) (m := 2) (xs := [uv16 x28a, .slice a_x28b (List.length x28b) c_x28b]) En30 (by kernel_rfl) rfl (il.ro.ev Hv18).reads had24 (fun j hj => ?_) rfl (by kernel_rfl) (by kernel_rfl) ?_
  ·
   exact flat_sub (sz := 2) (off := 0) (m := 2) (fun _ _ => rfl) hx27 (by decide) rfl j hj
  intro ac31 En32
  refine f_o ?_
  refine m_z 147 [.int .u16 0, .slice none 0 0] En32 Hv18 fun ac34 wo35 bk33 En36 Hv37 => ?_
  refine f_o ?_
  refine m_g 4 0 2 [uv16 x28a, .slice a_x28b (List.length x28b) c_x28b] [uv16 x28a, .slice a_x28b (List.length x28b) c_x28b] [.box bw [.slice a (List.length l) c, .bool bad] 115, .vec a c 1 (bys l) 5, .box bk3 [.slice wa (List.length m) wc, .bool bd] 115, .vec wa wc 1 (bys m) 5, .box bk33 [uv16 x28a, .slice a_x28b (List.length x28b) c_x28b] 147] En36 Hv37 rfl rfl (by simp) (one_all (by kernel_rfl)) rfl rfl fun ac38 wo39 En40 Hv41 => ?_
  refine f_e ?_
  refine then_normal ?_
  have hnb := hfb (i + 1) (by omega)
  rw [allM_take hx27, ← hfo] at hnb
  have hnc := hnb
  simp only [exF, wput_len, List.length_append, beN_len] at hnc
  refine region_from ?_
  refine d_k [0,1,2,4,10,12,15,16,17,21,22] [] 2 En40 fun ac42 En43 => ?_
  refine f_o ?_
  refine m_a 4 0 2 [uv16 x28a, .slice a_x28b (List.length x28b) c_x28b] En43 Hv41 rfl rfl rfl fun ac44 En45 => ?_
  refine f_o ?_
  refine c_l [2,3] (M := [.box bk3 [.slice wa (List.length m) wc, .bool bd] 115, .vec wa wc 1 (bys m) 5]) En45 Hv41 (fun hM48 => wext_go _ bk3 wa wc m bd x28a a_x28b c_x28b x28b ((i_x28b.ev Hv41).pick [2, 3] (by kernel_rfl)) (by first | omega | (simp only [wput_len, beN_len, List.length_nil, List.length_append]; omega) | (simp [wput_len, beN_len]; done) | (simp [wput_len, beN_len]; omega)) hM48) ?_
  rintro _ wo49 ⟨wa46, wc47, rfl, he50⟩
  refine ⟨_, _, [.box bk3 [.slice wa46 (List.length ((exF (m, bd) (x28a, x28b)).1)) wc47, .bool ((exF (m, bd) (x28a, x28b)).2)] 115, .vec wa46 wc47 1 (bys ((exF (m, bd) (x28a, x28b)).1)) 5, .box bw [.slice a (List.length l) c, .bool bad] 115, .vec a c 1 (bys l) 5, .box bk33 [uv16 x28a, .slice a_x28b (List.length x28b) c_x28b] 147], rfl, he50, by kernel_rfl, fun ac52 En53 Hv54 => ?_⟩
  refine f_e ?_
  refine block_normal ?_
  refine then_normal ?_
  refine d_r [0,1,2,4,10,12,15,16,17] [(0, g_n (w_a i 1))] En53 fun ac55 En56 => ?_
  refine then_normal ?_
  refine ⟨_, ⟨i + 1, wa46, wc47, ((exF (m, bd) (x28a, x28b)).1), ((exF (m, bd) (x28a, x28b)).2), rfl, En56.sb, Hv54.pk [2, 3, 0, 1], (by rw [allM_take hx27, ← hfo] <;> rfl)⟩, ?_⟩
  omega
 ·
  refine wp_exit ?_
  refine then_exit ?_
  refine then_exit ?_
  refine block_exit ?_
  refine then_normal ?_
  refine wp_seq ?_
  have hfe := allM_all (F := exF) (f := (fun y : RExt => (y.1, y.2.1.l))) (xs := xs) (i := i) (by omega)
  rw [← hfo] at hfe
  refine region_cut (F := fun ac wo => ∃ (b2 : Bool), Env ac 47 [(0, pt bw), (1, ni n), (2, ni x), (4, .func (.func 208) #[] #[]), (10, pt bk3), (15, .slice al (List.length xs) cl), (16, .int .i64 ((List.length xs : Nat) : Int)), (17, ni i)] ∧ Ev w [.box bw [.slice a (List.length l) c, .bool bad] 115, .vec a c 1 (bys l) 5] wo [.box bw [.slice a (List.length l) c, .bool b2] 115, .vec a c 1 (bys l) 5, .box bk3 [.slice wa (List.length m) wc, .bool bd] 115, .vec wa wc 1 (bys m) 5] ∧ (b2 = (bad || bd))) ?_ ?_
  ·
   refine region_from ?_
   refine d_k [0,1,2,4,10,15,16,17,26,29] [] 4 En21 fun ac57 En58 => ?_
   refine f_o ?_
   refine m_l 0 En58 Hv18 fun ac59 En60 => ?_
   refine d_k [0,1,2,4,10,15,16,17,26,31] [] 6 En60 fun ac61 En62 => ?_
   rcases Bool.eq_false_or_eq_true (bad) with hb63 | hb63
   ·
    have En64 := En62.fx (t := 31) (congrArg Value.bool hb63)
    have hp65 : bad = true := hb63
    refine d_k [0,1,2,4,10,15,16,17,36,38] [] 13 En64 fun ac66 En67 => ?_
    refine f_o ?_
    refine m_s 0 [.box bw [.slice a (List.length l) c, .bool true] 115, .vec a c 1 (bys l) 5, .box bk3 [.slice wa (List.length m) wc, .bool bd] 115, .vec wa wc 1 (bys m) 5] En67 Hv18 fun ac68 wo69 En70 Hv71 => ?_
    refine f_e ?_
    exact ⟨rfl, ⟨true, En70.sb, Hv71.pk [0, 1, 2, 3], (by first | exact or_t (by assumption) | exact or_f (by assumption))⟩⟩
   ·
    have En72 := En62.fx (t := 31) (congrArg Value.bool hb63)
    have hp73 : ¬ (bad = true) := Bool.eq_false_iff.1 hb63
    refine d_k [0,1,2,4,10,15,16,17,26,31,34] [] 9 En72 fun ac74 En75 => ?_
    refine f_o ?_
    refine m_l 2 En75 Hv18 fun ac76 En77 => ?_
    refine d_k [0,1,2,4,10,15,16,17,36,38] [] 13 En77 fun ac78 En79 => ?_
    refine f_o ?_
    refine m_s 0 [.box bw [.slice a (List.length l) c, .bool bd] 115, .vec a c 1 (bys l) 5, .box bk3 [.slice wa (List.length m) wc, .bool bd] 115, .vec wa wc 1 (bys m) 5] En79 Hv18 fun ac80 wo81 En82 Hv83 => ?_
    refine f_e ?_
    exact ⟨rfl, ⟨bd, En82.sb, Hv83.pk [0, 1, 2, 3], (by first | exact or_t (by assumption) | exact or_f (by assumption))⟩⟩
  ·
   rintro ac84 wo85 ⟨b2, En86, Hv87, hb2⟩
   refine then_normal ?_
   have hml := hfb (List.length xs) (Nat.le_refl _)
   rw [List.take_of_length_le (by rw [List.length_map]; exact Nat.le_refl _), ← hfe] at hml
   rw [← hfe] at hb
   refine region_from ?_
   refine d_k [0,4,10,15,16,17,39,40,41,44] [] 6 En86 fun ac88 En89 => ?_
   refine f_o ?_
   refine m_l 2 En89 Hv87 fun ac90 En91 => ?_
   refine f_o ?_
   refine c_l [0,1] (M := [.box bw [.slice a (List.length l) c, .bool b2] 115, .vec a c 1 (bys l) 5]) En91 Hv87 (fun hM94 => wlist_go _ bw a c l b2 n (by omega) x 16777215 (by omega) (by omega) wa wc m (bys_in Hv87.heap (k := 3) rfl [0, 1] (by kernel_rfl) rfl (by first | omega | (simp; done) | (simp; omega))) (by first | exact hb | omega) hM94) ?_
   rintro _ wo95 ⟨wa92, wc93, rfl, he96⟩
   refine ⟨_, _, [.box bw [.slice wa92 (List.length (wput n l m)) wc93, .bool (wbad n x 16777215 (List.length m) b2)] 115, .vec wa92 wc93 1 (bys (wput n l m)) 5, .box bk3 [.slice wa (List.length m) wc, .bool bd] 115, .vec wa wc 1 (bys m) 5], rfl, he96, by kernel_rfl, fun ac98 En99 Hv100 => ?_⟩
   refine f_e ?_
   refine d_end0 En99 (by kernel_rfl) ?_
   subst hb2
   rw [← hfe]
   exact ⟨wa92, wc93, rfl, Hv100.pk [0, 1]⟩

theorem wexts1_go (w : World) (tb : Nat) (t g : UInt16) (a2 : Option Addr) (n2 c2 : Nat) (ab : Option Addr) (cb : Nat) (b : Bs) (ib : InB w [.box tb [uv16 t, .slice a2 n2 c2] 147] ab cb b) (hH : Heap w [.box tb [uv16 t, .slice a2 n2 c2] 147]) : Calls Try.prog 206 #[.agg #[uv16 g, .slice ab (List.length b) cb], pt tb] w fun e w' => e = .returned (.bool (((UInt16.toNat g : Nat) : Int) == ((UInt16.toNat t : Nat) : Int))) ∧ Ev w [.box tb [uv16 t, .slice a2 n2 c2] 147] w' [.box tb [uv16 t, .slice a2 n2 c2] 147] := by
 refine d_0 [(0, .agg #[uv16 g, .slice ab (List.length b) cb]), (1, pt tb)] 9 Go.Proofs.Try.func206 Go.Proofs.Try.ntmps206 (hH) fun act0 En0 Hv0 => ?_
 refine wp_seq ?_
 refine region_from ?_
 refine f_o ?_
 refine m_m 147 [uv16 g, .slice ab (List.length b) cb] En0 Hv0 fun ac2 wo3 bk1 En4 Hv5 => ?_
 refine d_e [1,2,3] [] En4 fun ac6 En7 => ?_
 refine then_normal ?_
 refine wp_seq ?_
 refine region_from ?_
 refine d_k [1,3,4] [] 1 En7 fun ac8 En9 => ?_
 refine f_o ?_
 refine m_l 1 En9 Hv5 fun ac10 En11 => ?_
 refine d_k [3,5,6] [] 3 En11 fun ac12 En13 => ?_
 refine f_o ?_
 refine m_l 0 En13 Hv5 fun ac14 En15 => ?_
 refine d_e [3] [] En15 fun ac16 En17 => ?_
 refine then_normal ?_
 refine wp_ret ?_
 refine d_ret1 (t := 3) (v := .bool (((UInt16.toNat g : Nat) : Int) == ((UInt16.toNat t : Nat) : Int))) En17 (by kernel_rfl) (by kernel_rfl) ?_
 exact ⟨rfl, Hv5.pk [0]⟩

theorem windexe_go (w : World) (tb : Nat) (t : UInt16) (a2 : Option Addr) (n2 c2 : Nat) (al : Option Addr) (cl : Nat) (xs : List RExt) (il : InS fExt 32 (fun y : RExt => (True ∧ (InB w [.box tb [uv16 t, .slice a2 n2 c2] 147] y.2.1.a y.2.1.c y.2.1.l ∧ (True)))) w [.box tb [uv16 t, .slice a2 n2 c2] 147] al cl xs) (hH : Heap w [.box tb [uv16 t, .slice a2 n2 c2] 147]) : Calls Try.prog 133 #[.slice al (List.length xs) cl, .func (.func 206) #[] #[pt tb]] w fun e w' => e = .returned (.int .i64 (fdI t (List.map (fun y : RExt => (y.1, y.2.1.l)) xs))) ∧ Ev w [.box tb [uv16 t, .slice a2 n2 c2] 147] w' [.box tb [uv16 t, .slice a2 n2 c2] 147] := by
 refine d_0 [(0, .slice al (List.length xs) cl), (1, .func (.func 206) #[] #[pt tb])] 19 Go.Proofs.Try.func133 Go.Proofs.Try.ntmps133 (hH) fun act0 En0 Hv0 => ?_
 refine wp_seq ?_
 refine d_r [0,1,4] [] En0 fun ac1 En2 => ?_
 refine then_normal ?_
 refine wp_seq ?_
 refine wp_seq ?_
 refine d_r [0,1,4,7,8] [] En2 fun ac3 En4 => ?_
 refine then_normal ?_
 refine wp_block ?_
 refine loop_m (fun ms5 ac wo => ∃ (i : Nat), ms5 = (List.length xs + 1 - i : Nat) ∧ Env ac 19 [(0, .slice al (List.length xs) cl), (1, .func (.func 206) #[] #[pt tb]), (7, .int .i64 ((List.length xs : Nat) : Int)), (8, ni i)] ∧ Ev w [.box tb [uv16 t, .slice a2 n2 c2] 147] wo [.box tb [uv16 t, .slice a2 n2 c2] 147] ∧ (fdN t (List.map (fun y : RExt => (y.1, y.2.1.l)) xs) = i + fdN t (List.drop i (List.map (fun y : RExt => (y.1, y.2.1.l)) xs)))) ⟨_, 0, rfl, En4.sb, Hv0.pk [0], (by rw [List.drop_zero, Nat.zero_add])⟩ ?_
 rintro mm11 ac7 wo8 ⟨i, rfl, En9, Hv10, hfi⟩
 refine wp_seq ?_
 refine d_r [0,1,7,8,9] [] En9 fun ac12 En13 => ?_
 refine then_normal ?_
 refine wp_seq ?_
 refine c_d (((i : Nat) : Int) < ((List.length xs : Nat) : Int)) En13 (fun hc14 => ?_) (fun hc14 => ?_)
 ·
  refine wp_skip ?_
  refine then_normal ?_
  refine wp_seq ?_
  refine wp_block ?_
  refine wp_seq ?_
  refine d_r [0,1,5,7,8] [] En13 fun ac15 En16 => ?_
  refine then_normal ?_
  refine wp_seq ?_
  have hzl := il.small
  have hb19 : i < List.length xs := (by omega)
  obtain ⟨adr17, had18⟩ := some_of il.nz hb19
  have hb20 : i < List.length xs := by omega
  obtain ⟨⟨x22a, ⟨a_x22b, c_x22b, x22b⟩, _⟩, hx21⟩ : ∃ x, (xs)[i]? = some x := ⟨_, List.getElem?_eq_getElem hb20⟩
  obtain ⟨_, i_x22b, _⟩ := il.each _ (List.mem_of_getElem? hx21)
  replace i_x22b : InB w [.box tb [uv16 t, .slice a2 n2 c2] 147] a_x22b c_x22b x22b := i_x22b
  refine region_from ?_
  refine d_k [0,1,5,7,8,11,12,13] [] 3 En16 fun ac23 En24 => ?_
  refine f_o ?_
  refine q_v (x := Instr.indexAt 36 (.slice al (List.length xs) cl) (ni i)) (v := .pointer (some (Addr.add adr17 (i * 2)))) En24 (Go.Dbr.run_indexsl (e := 147) (sz := 2) (j := i) (jo := i * 2) had18 (by kernel_rfl) (by kernel_rfl) (by omega) hb19 rfl _) fun ac25 En26 => ?_
  refine f_o ?_
  refine op_loadaggat (d := some 15) (t := 147) (ad := adr17) (ao := al) (ys := List.flatMap fExt xs) (o := i * 2) (m := 2) (xs := [uv16 x22a, .slice a_x22b (List.length x22b) c_x22b]) En26 (by kernel_rfl) rfl (il.ro.ev Hv10).reads had18 (fun j hj => ?_) rfl (by kernel_rfl) (by kernel_rfl) ?_
  ·
   exact flat_sub (sz := 2) (off := 0) (m := 2) (fun _ _ => rfl) hx21 (by decide) rfl j hj
  intro ac27 En28
  refine f_o ?_
  refine c_l [0] (M := [.box tb [uv16 t, .slice a2 n2 c2] 147]) En28 Hv10 (fun hM29 => wexts1_go _ tb t x22a a2 n2 c2 a_x22b c_x22b x22b ((i_x22b.ev Hv10).pick [0] (by kernel_rfl)) hM29) ?_
  rintro _ wo30 ⟨rfl, he31⟩
  refine ⟨_, _, [.box tb [uv16 t, .slice a2 n2 c2] 147], rfl, he31, by kernel_rfl, fun ac33 En34 Hv35 => ?_⟩
  refine f_e ?_
  refine then_normal ?_
  refine cond_at En34 (t := ((UInt16.toNat x22a : Nat) : Int) == ((UInt16.toNat t : Nat) : Int)) (by kernel_rfl) (fun hc36 => ?_) (fun hc36 => ?_)
  ·
   replace hc36 : ((UInt16.toNat x22a : Nat) : Int) = ((UInt16.toNat t : Nat) : Int) := eq_of_beq hc36
   refine wp_seq ?_
   refine d_r [0,1,4,5,7,8] [] En34 fun ac37 En38 => ?_
   refine then_normal ?_
   refine wp_ret ?_
   refine block_ret ?_
   refine then_ret ?_
   refine then_ret ?_
   refine block_ret ?_
   refine then_ret ?_
   refine d_ret1 (t := 4) (v := ni i) En38 (by kernel_rfl) (by kernel_rfl) ?_
   obtain ⟨hN, hP⟩ := fd_hit (f := (fun y : RExt => (y.1, y.2.1.l))) hfi hx21 (u16_eq (by assumption))
   have hL : fdN t (List.map (fun y : RExt => (y.1, y.2.1.l)) xs) < List.length (List.map (fun y : RExt => (y.1, y.2.1.l)) xs) := by rw [hN, List.length_map]; omega
   exact ⟨congrArg (fun z => Ending.returned (Value.int .i64 z)) (by rw [fdI_y hL, hN]), Hv35.pk [0]⟩
  ·
   replace hc36 : ¬ (((UInt16.toNat x22a : Nat) : Int) = ((UInt16.toNat t : Nat) : Int)) := ne_of_beq_false hc36
   refine wp_skip ?_
   refine block_normal ?_
   refine then_normal ?_
   refine d_r [0,1,5,7,8] [(0, g_n (w_a i 1))] En34 fun ac39 En40 => ?_
   refine then_normal ?_
   refine ⟨_, ⟨i + 1, rfl, En40.sb, Hv35.pk [0], (fd_go hfi hx21 (fun g => absurd (congrArg (fun z : UInt16 => ((UInt16.toNat z : Nat) : Int)) g) (by assumption)))⟩, ?_⟩
   omega
 ·
  refine wp_exit ?_
  refine then_exit ?_
  refine then_exit ?_
  refine block_exit ?_
  refine then_normal ?_
  refine wp_seq ?_
  refine d_r [0,1,4,7,8] [] En13 fun ac41 En42 => ?_
  refine then_normal ?_
  refine wp_ret ?_
  refine d_ret1 (t := 4) (v := .int .i64 (-1)) En42 (by kernel_rfl) (by kernel_rfl) ?_
  exact ⟨congrArg (fun z => Ending.returned (Value.int .i64 z)) (fdI_n (fd_end hfi (by omega))).symm, Hv10.pk [0]⟩

theorem wcontf_go (w : World) (tb : Nat) (t : UInt16) (a2 : Option Addr) (n2 c2 : Nat) (n : Nat) (al : Option Addr) (cl : Nat) (xs : List RExt) (il : InS fExt 32 (fun y : RExt => (True ∧ (InB w [.box tb [uv16 t, .slice a2 n2 c2] 147] y.2.1.a y.2.1.c y.2.1.l ∧ (True)))) w [.box tb [uv16 t, .slice a2 n2 c2] 147] al cl xs) (en : n = List.length xs) (hH : Heap w [.box tb [uv16 t, .slice a2 n2 c2] 147]) : Calls Try.prog 205 #[.slice al n cl, .func (.func 206) #[] #[pt tb]] w fun e w' => e = .returned (.bool (hasE t (List.map (fun y : RExt => (y.1, y.2.1.l)) xs))) ∧ Ev w [.box tb [uv16 t, .slice a2 n2 c2] 147] w' [.box tb [uv16 t, .slice a2 n2 c2] 147] := by
 subst en
 refine d_0 [(0, .slice al (List.length xs) cl), (1, .func (.func 206) #[] #[pt tb])] 9 Go.Proofs.Try.func205 Go.Proofs.Try.ntmps205 (hH) fun act0 En0 Hv0 => ?_
 refine d_s [0,1,4] [] En0 fun ac1 En2 => ?_
 refine wp_seq ?_
 refine region_from ?_
 refine d_k [4,5,6] [] 2 En2 fun ac3 En4 => ?_
 refine f_o ?_
 refine c_l [0] (M := [.box tb [uv16 t, .slice a2 n2 c2] 147]) En4 Hv0 (fun hM5 => windexe_go _ tb t a2 n2 c2 al cl xs (il.go Hv0 [0] (by kernel_rfl) (fun _ h => ⟨h.1, (InB.ev h.2.1 Hv0).pick [0] (by kernel_rfl), h.2.2⟩)) hM5) ?_
 rintro _ wo6 ⟨rfl, he7⟩
 refine ⟨_, _, [.box tb [uv16 t, .slice a2 n2 c2] 147], rfl, he7, by kernel_rfl, fun ac9 En10 Hv11 => ?_⟩
 refine d_e [4] [(3, g_v (show (.bool (decide (fdI t (List.map (fun y : RExt => (y.1, y.2.1.l)) xs) ≥ (0 : Int))) : Value) = .bool (hasE t (List.map (fun y : RExt => (y.1, y.2.1.l)) xs)) by rw [fdI_ge t (List.map (fun y : RExt => (y.1, y.2.1.l)) xs)] <;> rfl))] En10 fun ac12 En13 => ?_
 refine then_normal ?_
 refine wp_ret ?_
 refine d_ret1 (t := 4) (v := .bool (hasE t (List.map (fun y : RExt => (y.1, y.2.1.l)) xs))) En13 (by kernel_rfl) (by kernel_rfl) ?_
 exact ⟨rfl, Hv11.pk [0]⟩

theorem wexts_go (w : World) (bw : Nat) (a : Option Addr) (c : Nat) (l : Bs) (bad : Bool) (al : Option Addr) (cl : Nat) (xs : List RExt) (il : InS fExt 32 (fun y : RExt => (True ∧ (InB w [.box bw [.slice a (List.length l) c, .bool bad] 115, .vec a c 1 (bys l) 5] y.2.1.a y.2.1.c y.2.1.l ∧ (True)))) w [.box bw [.slice a (List.length l) c, .bool bad] 115, .vec a c 1 (bys l) 5] al cl xs) (hq0 : List.length (allM exF (List.map (fun y : RExt => (y.1, y.2.1.l)) xs)).1 ≤ 140737489403904) (hb : List.length l + 2 + List.length (allM exF (List.map (fun y : RExt => (y.1, y.2.1.l)) xs)).1 ≤ 200000000000000) (hH : Heap w [.box bw [.slice a (List.length l) c, .bool bad] 115, .vec a c 1 (bys l) 5]) : Calls Try.prog 179 #[pt bw, .slice al (List.length xs) cl] w fun e w' => ∃ a' c', e = .returned (.tuple #[]) ∧ Ev w [.box bw [.slice a (List.length l) c, .bool bad] 115, .vec a c 1 (bys l) 5] w' [.box bw [.slice a' (List.length ((wexF (l, bad) (List.map (fun y : RExt => (y.1, y.2.1.l)) xs)).1)) c', .bool ((wexF (l, bad) (List.map (fun y : RExt => (y.1, y.2.1.l)) xs)).2)] 115, .vec a' c' 1 (bys ((wexF (l, bad) (List.map (fun y : RExt => (y.1, y.2.1.l)) xs)).1)) 5] := by
 refine d_0 [(0, pt bw), (1, .slice al (List.length xs) cl)] 31 Go.Proofs.Try.func179 Go.Proofs.Try.ntmps179 (hH) fun act0 En0 Hv0 => ?_
 refine wp_seq ?_
 refine wp_seq ?_
 refine d_r [0,1,6,7,8] [] En0 fun ac1 En2 => ?_
 refine then_normal ?_
 refine wp_block ?_
 refine loop_m (fun ms3 ac wo => ∃ (i : Nat) (od : Bool), ms3 = (List.length xs - i : Nat) ∧ Env ac 31 [(0, pt bw), (1, .slice al (List.length xs) cl), (6, .slice al (List.length xs) cl), (7, .int .i64 ((List.length xs : Nat) : Int)), (8, ni i)] ∧ Ev w [.box bw [.slice a (List.length l) c, .bool bad] 115, .vec a c 1 (bys l) 5] wo [.box bw [.slice a (List.length l) c, .bool od] 115, .vec a c 1 (bys l) 5] ∧ (i ≤ List.length xs) ∧ (od = (bad || dupN (List.map (fun y : RExt => (y.1, y.2.1.l)) xs) i))) ⟨_, 0, bad, rfl, En2.sb, Hv0.pk [0, 1], (Nat.zero_le _), (by rw [dupN, Bool.or_false])⟩ ?_
 rintro mm9 ac5 wo6 ⟨i, od, rfl, En7, Hv8, hil, hod⟩
 refine wp_seq ?_
 have hzl := il.small
 have hzc := il.cap
 refine d_r [0,1,6,7,8,9] [] En7 fun ac10 En11 => ?_
 refine then_normal ?_
 refine wp_seq ?_
 refine c_d (((i : Nat) : Int) < ((List.length xs : Nat) : Int)) En11 (fun hc12 => ?_) (fun hc12 => ?_)
 ·
  refine wp_skip ?_
  refine then_normal ?_
  refine wp_seq ?_
  refine wp_block ?_
  refine wp_seq ?_
  have hb15 : i < List.length xs := (by omega)
  obtain ⟨adr13, had14⟩ := some_of il.nz hb15
  have hb16 : i < List.length xs := by omega
  obtain ⟨⟨x18a, ⟨a_x18b, c_x18b, x18b⟩, _⟩, hx17⟩ : ∃ x, (xs)[i]? = some x := ⟨_, List.getElem?_eq_getElem hb16⟩
  obtain ⟨_, i_x18b, _⟩ := il.each _ (List.mem_of_getElem? hx17)
  replace i_x18b : InB w [.box bw [.slice a (List.length l) c, .bool bad] 115, .vec a c 1 (bys l) 5] a_x18b c_x18b x18b := i_x18b
  refine region_from ?_
  refine d_k [0,1,6,7,8,10] [] 1 En11 fun ac19 En20 => ?_
  refine f_o ?_
  refine q_v (x := Instr.indexAt 36 (.slice al (List.length xs) cl) (ni i)) (v := .pointer (some (Addr.add adr13 (i * 2)))) En20 (Go.Dbr.run_indexsl (e := 147) (sz := 2) (j := i) (jo := i * 2) had14 (by kernel_rfl) (by kernel_rfl) (by omega) hb15 rfl _) fun ac21 En22 => ?_
  refine f_o ?_
  refine op_loadaggat (d := some 12) (t := 147) (ad := adr13) (ao := al) (ys := List.flatMap fExt xs) (o := i * 2) (m := 2) (xs := [uv16 x18a, .slice a_x18b (List.length x18b) c_x18b]) En22 (by kernel_rfl) rfl (il.ro.ev Hv8).reads had14 (fun j hj => ?_) rfl (by kernel_rfl) (by kernel_rfl) ?_
  ·
   exact flat_sub (sz := 2) (off := 0) (m := 2) (fun _ _ => rfl) hx17 (by decide) rfl j hj
  intro ac23 En24
  refine f_o ?_
  refine m_z 147 [.int .u16 0, .slice none 0 0] En24 Hv8 fun ac26 wo27 bk25 En28 Hv29 => ?_
  refine d_k [0,1,4,5,6,7,8,12] [] 5 En28 fun ac30 En31 => ?_
  refine f_o ?_
  refine m_g 2 0 2 [uv16 x18a, .slice a_x18b (List.length x18b) c_x18b] [uv16 x18a, .slice a_x18b (List.length x18b) c_x18b] [.box bw [.slice a (List.length l) c, .bool od] 115, .vec a c 1 (bys l) 5, .box bk25 [uv16 x18a, .slice a_x18b (List.length x18b) c_x18b] 147] En31 Hv29 rfl rfl (by simp) (one_all (by kernel_rfl)) rfl rfl fun ac32 wo33 En34 Hv35 => ?_
  refine f_e ?_
  refine then_normal ?_
  refine region_from ?_
  refine d_k [0,1,4,5,6,7,8,13,16] [] 4 En34 fun ac36 En37 => ?_
  refine f_o ?_
  refine m_l 0 En37 Hv35 fun ac38 En39 => ?_
  refine d_k [0,1,4,5,6,7,8,13,18] [] 6 En39 fun ac40 En41 => ?_
  rcases Bool.eq_false_or_eq_true (od) with hb42 | hb42
  ·
   have En43 := En41.fx (t := 18) (congrArg Value.bool hb42)
   have hp44 : od = true := hb42
   refine d_k [0,1,5,6,7,8,24,26] [] 14 En43 fun ac45 En46 => ?_
   refine f_o ?_
   refine m_s 0 [.box bw [.slice a (List.length l) c, .bool true] 115, .vec a c 1 (bys l) 5, .box bk25 [uv16 x18a, .slice a_x18b (List.length x18b) c_x18b] 147] En46 Hv35 fun ac47 wo48 En49 Hv50 => ?_
   refine f_e ?_
   refine block_normal ?_
   refine then_normal ?_
   refine d_r [0,1,5,6,7,8] [(0, g_n (w_a i 1))] En49 fun ac51 En52 => ?_
   refine then_normal ?_
   refine ⟨_, ⟨i + 1, true, rfl, En52.sb, Hv50.pk [0, 1], (by omega), (dup_t (show (List.map (fun y : RExt => (y.1, y.2.1.l)) xs)[i]? = some ((fun y : RExt => (y.1, y.2.1.l)) (x18a, ⟨a_x18b, c_x18b, x18b⟩, ())) from by rw [List.getElem?_map, hx17]; rfl) hod hp44)⟩, ?_⟩
   omega
  ·
   have En53 := En41.fx (t := 18) (congrArg Value.bool hb42)
   have hp54 : ¬ (od = true) := Bool.eq_false_iff.1 hb42
   refine d_k [0,1,5,6,7,8,13,18,19,20] [] 8 En53 fun ac55 En56 => ?_
   refine f_o ?_
   refine op_slice0 (d := some 21) (t := 36) (e := 147) (sz := 2) (len := List.length xs) (cap := cl) (hi := i) (ao := al) (lov := none) (hiv := (some (ni i))) En56 (by kernel_rfl) (by kernel_rfl) (by kernel_rfl) (by omega) (.inl ⟨rfl, rfl⟩) (.inr ⟨.i64, rfl⟩) ?_
   intro ac57 En58
   refine d_k [0,1,5,6,7,8,13,18,21,22] [] 10 En58 fun ac59 En60 => ?_
   refine f_o ?_
   refine c_l [2] (M := [.box bk25 [uv16 x18a, .slice a_x18b (List.length x18b) c_x18b] 147]) En60 Hv35 (fun hM61 => wcontf_go _ bk25 x18a a_x18b (List.length x18b) c_x18b i al cl (List.take i xs) ((il.go Hv35 [2] (by kernel_rfl) (fun _ h => ⟨h.1, (InB.ev h.2.1 Hv35).pick [2] (by kernel_rfl), h.2.2⟩)).take i) (by rw [List.length_take]; omega) hM61) ?_
   rintro _ wo62 ⟨rfl, he63⟩
   refine ⟨_, _, [.box bk25 [uv16 x18a, .slice a_x18b (List.length x18b) c_x18b] 147, .box bw [.slice a (List.length l) c, .bool od] 115, .vec a c 1 (bys l) 5], rfl, he63, by kernel_rfl, fun ac65 En66 Hv67 => ?_⟩
   refine d_k [0,1,5,6,7,8,24,26] [] 14 En66 fun ac68 En69 => ?_
   refine f_o ?_
   refine m_s 1 [.box bk25 [uv16 x18a, .slice a_x18b (List.length x18b) c_x18b] 147, .box bw [.slice a (List.length l) c, .bool (hasE x18a (List.map (fun y : RExt => (y.1, y.2.1.l)) (List.take i xs)))] 115, .vec a c 1 (bys l) 5] En69 Hv67 fun ac70 wo71 En72 Hv73 => ?_
   refine f_e ?_
   refine block_normal ?_
   refine then_normal ?_
   refine d_r [0,1,5,6,7,8] [(0, g_n (w_a i 1))] En72 fun ac74 En75 => ?_
   refine then_normal ?_
   refine ⟨_, ⟨i + 1, hasE x18a (List.map (fun y : RExt => (y.1, y.2.1.l)) (List.take i xs)), rfl, En75.sb, Hv73.pk [1, 2], (by omega), (by rw [List.map_take]; exact dup_f (show (List.map (fun y : RExt => (y.1, y.2.1.l)) xs)[i]? = some ((fun y : RExt => (y.1, y.2.1.l)) (x18a, ⟨a_x18b, c_x18b, x18b⟩, ())) from by rw [List.getElem?_map, hx17]; rfl) hod hp54)⟩, ?_⟩
   omega
 ·
  refine wp_exit ?_
  refine then_exit ?_
  refine then_exit ?_
  refine block_exit ?_
  refine then_normal ?_
  have hfo := dup_all hod (by rw [List.length_map]; omega)
  subst hfo
  refine region_from ?_
  refine d_k [0,1,6,7,8,28,29] [] 2 En11 fun ac76 En77 => ?_
  refine f_o ?_
  refine c_l [0,1] (M := [.box bw [.slice a (List.length l) c, .bool (bad || dupA (List.map (fun y : RExt => (y.1, y.2.1.l)) xs))] 115, .vec a c 1 (bys l) 5]) En77 Hv8 (fun hM80 => all_ext _ bw a c l (bad || dupA (List.map (fun y : RExt => (y.1, y.2.1.l)) xs)) 2 (by omega) 0 (by omega) al cl xs (il.go Hv8 [0, 1] (by kernel_rfl) (fun _ h => ⟨h.1, (InB.ev h.2.1 Hv8).pick [0, 1] (by kernel_rfl), h.2.2⟩)) (fun i _ => Nat.le_trans (allM_mono exF_len _ i) hq0) (by omega) hM80) ?_
  rintro _ wo81 ⟨wa78, wc79, rfl, he82⟩
  refine ⟨_, _, [.box bw [.slice wa78 (List.length (wput 2 l (allM exF (List.map (fun y : RExt => (y.1, y.2.1.l)) xs)).1)) wc79, .bool (wbad 2 0 16777215 (List.length (allM exF (List.map (fun y : RExt => (y.1, y.2.1.l)) xs)).1) ((bad || dupA (List.map (fun y : RExt => (y.1, y.2.1.l)) xs)) || (allM exF (List.map (fun y : RExt => (y.1, y.2.1.l)) xs)).2))] 115, .vec wa78 wc79 1 (bys (wput 2 l (allM exF (List.map (fun y : RExt => (y.1, y.2.1.l)) xs)).1)) 5], rfl, he82, by kernel_rfl, fun ac84 En85 Hv86 => ?_⟩
  refine f_e ?_
  refine d_end0 En85 (by kernel_rfl) ?_
  exact ⟨wa78, wc79, rfl, Hv86.pk [0, 1]⟩

end Go.Proofs.Ytofecellbfhnjaa

/- Layer 17: greetings are written by the program. -/



namespace Go.Proofs.Ytofecellbfhnjaa
open Go.Dbr
set_option maxRecDepth 100000
set_option maxHeartbeats 2000000
set_option linter.unusedVariables false
set_option linter.unusedSimpArgs false

def begF (v : UInt16) (ar b : Bs) : WS := (wput 1 (beN 2 v.toNat ++ ar) b, wbad 1 0 32 b.length false)
def nmsF (p : WS) (ns : List UInt16) : WS := (wput 2 p.1 (allM u16F ns).1, wbad 2 2 16777215 (allM u16F ns).1.length (p.2 || (allM u16F ns).2))
def cliF (x : HL) : WS := wexF ((nmsF (begF x.1 x.2.1 x.2.2.1) x.2.2.2.1).1 ++ [1, 0], (nmsF (begF x.1 x.2.1 x.2.2.1) x.2.2.2.1).2 || lastQ x.2.2.2.2) x.2.2.2.2
def cliP (x : HL) : Bs := doneL (cliF x).2 (cliF x).1
def srvF (x : HL) (n : UInt16) : WS := wexF (((begF x.1 x.2.1 x.2.2.1).1 ++ beN 2 n.toNat) ++ [0], (begF x.1 x.2.1 x.2.2.1).2) x.2.2.2.2
def srvP (x : HL) : Bs := match x.2.2.2.1 with
  | [n] => doneL (srvF x n).2 (srvF x n).1
  | _ => []
theorem srv_n {x : HL} (h : ¬ x.2.2.2.1.length = 1) : srvP x = [] := by
  rw [srvP]
  split
  · rename_i e; rw [e] at h; exact absurd rfl h
  · rfl
theorem srv_y {α : Type} {f : α → UInt16} {ns : List α} {v : UInt16} {ar b : Bs} {es : List EX} {y : α} (h : ns.length = 1) (hx : ns[0]? = some y) : srvP (v, ar, b, List.map f ns, es) = doneL (srvF (v, ar, b, List.map f ns, es) (f y)).2 (srvF (v, ar, b, List.map f ns, es) (f y)).1 := by
  match ns, h with
  | [z], _ =>
    have e : z = y := by simpa using hx
    subst e
    rfl

theorem begw_go (w : World) (vv : UInt16) (ar : Bs) (har : List.length ar = 32) (ab : Option Addr) (cb : Nat) (b : Bs) (an al : Option Addr) (nn cn nl cl : Nat) (ib : InB w [] ab cb b) (hbt : List.length b ≤ 16777216) : Calls Try.prog 177 #[.agg (List.toArray (([uv16 vv] : List Value) ++ ((bys ar) ++ ([.slice ab (List.length b) cb, .slice an nn cn, .slice al nl cl] : List Value))))] w fun e w' => ∃ bw a' c', e = .returned (pt bw) ∧ Ev w [] w' [.box bw [.slice a' (List.length ((begF vv ar b).1)) c', .bool ((begF vv ar b).2)] 115, .vec a' c' 1 (bys ((begF vv ar b).1)) 5] := by
 have hbs := ib.small
 have hu2 : List.length (u16F ([], false) vv).1 = 2 := by rw [u16F, List.length_append, beN_len]; rfl
 have hu3 : List.length ((u16F ([], false) vv).1 ++ ar) = 34 := by rw [List.length_append, hu2, har]
 refine d_0 [(0, .agg (List.toArray (([uv16 vv] : List Value) ++ ((bys ar) ++ ([.slice ab (List.length b) cb, .slice an nn cn, .slice al nl cl] : List Value)))))] 25 Go.Proofs.Try.func177 Go.Proofs.Try.ntmps177 (Heap.nil _) fun act0 En0 Hv0 => ?_
 refine wp_seq ?_
 refine region_from ?_
 refine f_o ?_
 refine m_m 75 (([uv16 vv] : List Value) ++ ((bys ar) ++ ([.slice ab (List.length b) cb, .slice an nn cn, .slice al nl cl] : List Value))) En0 Hv0 fun ac2 wo3 bk1 En4 Hv5 => ?_
 refine d_e [1,2] [] En4 fun ac6 En7 => ?_
 refine then_normal ?_
 refine wp_seq ?_
 refine region_from ?_
 refine d_k [1,2,4] [] 1 En7 fun ac8 En9 => ?_
 refine f_o ?_
 refine m_m 115 [.slice none 0 0, .bool false] En9 Hv5 fun ac11 wo12 bk10 En13 Hv14 => ?_
 refine d_e [1,2,3] [] En13 fun ac15 En16 => ?_
 refine then_normal ?_
 refine wp_seq ?_
 refine region_from ?_
 refine d_k [1,2,3,6,7] [] 2 En16 fun ac17 En18 => ?_
 refine f_o ?_
 refine m_v 0 0 (uv16 vv) En18 Hv14 rfl (seg_in rfl) fun ac19 En20 => ?_
 refine f_o ?_
 have Hv21 : Ev w [] wo12 [.box bk1 (([uv16 vv] : List Value) ++ ((bys ar) ++ ([.slice ab (List.length b) cb, .slice an nn cn, .slice al nl cl] : List Value))) 75, .box bk10 [.slice none 0 0, .bool false] 115, .vec none 0 1 (bys []) 5] := Ev.nil (sz := 1) (T := 5) Hv14
 refine c_l [1,2] (M := [.box bk10 [.slice none 0 0, .bool false] 115, .vec none 0 1 (bys []) 5]) En20 Hv21 (fun hM24 => wu16_go _ bk10 none 0 [] false vv (by first | omega | (simp only [List.length_nil, List.length_append, beN_len]; omega) | (simp only [u16F, beN_len, List.length_nil, List.length_append]; omega) | (simp only [wput_len, beN_len, List.length_nil, List.length_append]; omega) | (simp [wput_len, beN_len]; done) | (simp [wput_len, beN_len]; omega)) hM24) ?_
 rintro _ wo25 ⟨wa22, wc23, rfl, he26⟩
 refine ⟨_, _, [.box bk10 [.slice wa22 (List.length ((u16F ([], false) vv).1)) wc23, .bool ((u16F ([], false) vv).2)] 115, .vec wa22 wc23 1 (bys ((u16F ([], false) vv).1)) 5, .box bk1 (([uv16 vv] : List Value) ++ ((bys ar) ++ ([.slice ab (List.length b) cb, .slice an nn cn, .slice al nl cl] : List Value))) 75], rfl, he26, by kernel_rfl, fun ac28 En29 Hv30 => ?_⟩
 refine f_e ?_
 refine then_normal ?_
 refine wp_seq ?_
 refine r_c (fun ac wo => ∃ (ao78 : Option Addr) (cp79 : Nat), Env ac 25 [(1, pt bk1), (2, .pointer none), (3, pt bk10)] ∧ Ev w [] wo [.box bk10 [.slice ao78 (List.length (((u16F ([], false) vv).1) ++ ar)) cp79, .bool ((u16F ([], false) vv).2)] 115, .vec ao78 cp79 1 (bys (((u16F ([], false) vv).1) ++ ar)) 5, .box bk1 (([uv16 vv] : List Value) ++ ((bys ar) ++ ([.slice ab (List.length b) cb, .slice an nn cn, .slice al nl cl] : List Value))) 75]) ?_ ?_
 ·
  refine h_s (fun wv => Ev w [] wv [.box bk10 [.slice wa22 (List.length ((u16F ([], false) vv).1)) wc23, .bool ((u16F ([], false) vv).2)] 115, .box bk1 (([uv16 vv] : List Value) ++ ((bys ar) ++ ([.slice ab (List.length b) cb, .slice an nn cn, .slice al nl cl] : List Value))) 75]) [10] 11 ?_
  have wo31 := Hv30.trans (Ev.drew Hv30.heap)
  refine q_s [0,1,2,3] [] 7 En29 (wo31.pk [0, 2]) fun ac92 En93 => ?_
  refine q_l 0 4 En93 (wo31.pk [0, 2]) fun ac94 En95 => ?_
  refine q_s [5] [] 5 En95 (wo31.pk [0, 2]) fun ac96 En97 => ?_
  refine q_t 6 ?_
  refine op_slicearr (d := some 16) (t := 29) (e := 5) (sz := 1) (m := 32) (lo := 0) (hi := 32) (b := bk1) (off := 1) (lov := none) (hiv := none) (o := 1) En97 (by kernel_rfl) (by kernel_rfl) (by kernel_rfl) (by omega) (by omega) (by omega) (.inl ⟨rfl, rfl⟩) (.inl ⟨rfl, rfl⟩) (by omega) ?_
  intro ac98 En99
  refine ⟨fun _ => wo31.pk [0, 2], ?_⟩
  refine q_t 7 ?_
  refine op_append (d := some 17) (t := 23) (tx := 23) (ty := 23) (k := 1) (p := List.length ((u16F ([], false) vv).1)) (m := 32) (x := .slice (some ⟨bk1, 1, none⟩) 32 32) (bytes := 1) En99 (by kernel_rfl) wo31 rfl (bys_len _) (Reads.src (size := 1) (tx := 23) (e' := 5) (by kernel_rfl) (wo31.heap.readsBox (k := 2) (m := 32) (xs := bys ar) rfl (by simp [bys_lenh har, List.drop_append, List.take_append])) (bys_lenn (by first | (rw [har]) | (simp [har]; done) | (simp [har]; omega))) (fun e => by cases e) (bys_one _)) (by kernel_rfl) (z := .int .u8 0) (by kernel_rfl) rfl (by decide) (by first | omega | (simp [beN_len]; done) | (simp [beN_len]; omega)) (by unfold maxLen; first | omega | (simp [beN_len]; done) | (simp [beN_len]; omega)) ?_
  intro ac104 wo105 ao100 cp101 En106 Hv107 hnz _
  clear hnz
  rw [← bys_append] at Hv107
  have ehz102 : (List.length ((u16F ([], false) vv).1)) + 32 = List.length (((u16F ([], false) vv).1) ++ ar) := (by first | (simp; done) | (simp; omega) | omega)
  rw [ehz102] at En106
  refine ⟨fun _ => Hv107.pk [0, 2], ?_⟩
  refine q_s [8,9] [] 1 En106 (Hv107.pk [0, 2]) fun ac108 En109 => ?_
  refine q_t 10 ?_
  refine m_s 0 [.box bk10 [.slice ao100 (List.length (((u16F ([], false) vv).1) ++ ar)) cp101, .bool ((u16F ([], false) vv).2)] 115, .vec ao100 cp101 1 (bys (((u16F ([], false) vv).1) ++ ar)) 5, .box bk1 (([uv16 vv] : List Value) ++ ((bys ar) ++ ([.slice ab (List.length b) cb, .slice an nn cn, .slice al nl cl] : List Value))) 75] En109 Hv107 fun ac110 wo111 En112 Hv113 => ?_
  refine ⟨q_y, ?_⟩
  exact h_e ⟨ao100, cp101, En112.sb, Hv113.pk [0, 1, 2]⟩
 rintro ac114 wo115 ⟨ao78, cp79, En116, Hv117⟩
 refine then_normal ?_
 refine wp_seq ?_
 refine region_from ?_
 refine d_k [1,2,3,20,21] [] 2 En116 fun ac118 En119 => ?_
 refine f_o ?_
 refine m_v 2 33 (.slice ab (List.length b) cb) En119 Hv117 rfl (seg_skip (n := 1) (j := 32) rfl (seg_skip (n := 32) (j := 0) (bys_lenh har) rfl)) fun ac120 En121 => ?_
 refine f_o ?_
 refine c_l [0,1] (M := [.box bk10 [.slice ao78 (List.length (((u16F ([], false) vv).1) ++ ar)) cp79, .bool ((u16F ([], false) vv).2)] 115, .vec ao78 cp79 1 (bys (((u16F ([], false) vv).1) ++ ar)) 5]) En121 Hv117 (fun hM124 => wlist_go _ bk10 ao78 cp79 (((u16F ([], false) vv).1) ++ ar) ((u16F ([], false) vv).2) 1 (by omega) 0 32 (by omega) (by omega) ab cb b ((ib.ev Hv117).pick [0, 1] (by kernel_rfl)) (by first | omega | (simp only [List.length_nil, List.length_append, beN_len]; omega) | (simp only [u16F, beN_len, List.length_nil, List.length_append]; omega) | (simp only [wput_len, beN_len, List.length_nil, List.length_append]; omega) | (simp [wput_len, beN_len]; done) | (simp [wput_len, beN_len]; omega)) hM124) ?_
 rintro _ wo125 ⟨wa122, wc123, rfl, he126⟩
 refine ⟨_, _, [.box bk10 [.slice wa122 (List.length (wput 1 (((u16F ([], false) vv).1) ++ ar) b)) wc123, .bool (wbad 1 0 32 (List.length b) ((u16F ([], false) vv).2))] 115, .vec wa122 wc123 1 (bys (wput 1 (((u16F ([], false) vv).1) ++ ar) b)) 5, .box bk1 (([uv16 vv] : List Value) ++ ((bys ar) ++ ([.slice ab (List.length b) cb, .slice an nn cn, .slice al nl cl] : List Value))) 75], rfl, he126, by kernel_rfl, fun ac128 En129 Hv130 => ?_⟩
 refine f_e ?_
 refine then_normal ?_
 refine d_s [1,2,3] [] En129 fun ac131 En132 => ?_
 refine wp_ret ?_
 refine d_ret1 (t := 2) (v := pt bk10) En132 (by kernel_rfl) (by kernel_rfl) ?_
 exact ⟨bk10, wa122, wc123, rfl, Hv130.pk [0, 1]⟩

theorem pclient_go (w : World) (vv : UInt16) (ar : Bs) (har : List.length ar = 32) (ab : Option Addr) (cb : Nat) (b : Bs) (an : Option Addr) (cn : Nat) (ns : List RU16) (al : Option Addr) (cl : Nat) (xs : List RExt) (ib : InB w [] ab cb b) (iln : InS fU16 2 (fun y : RU16 => True) w [] an cn ns) (il : InS fExt 32 (fun y : RExt => (True ∧ (InB w [] y.2.1.a y.2.1.c y.2.1.l ∧ (True)))) w [] al cl xs) (hq0 : List.length (allM exF (List.map (fun y : RExt => (y.1, y.2.1.l)) xs)).1 ≤ 16777216) (hqn : allB u16F (List.map (fun y : RU16 => y) ns)) (hbt : List.length b ≤ 16777216) : Calls Try.prog 72 #[.agg (List.toArray (([uv16 vv] : List Value) ++ ((bys ar) ++ ([.slice ab (List.length b) cb, .slice an (List.length ns) cn, .slice al (List.length xs) cl] : List Value))))] w fun e w' => ∃ a' c', e = .returned (.slice a' (List.length (cliP (vv, ar, b, (List.map (fun y : RU16 => y) ns), (List.map (fun y : RExt => (y.1, y.2.1.l)) xs)))) c') ∧ Ev w [] w' [.vec a' c' 1 (bys (cliP (vv, ar, b, (List.map (fun y : RU16 => y) ns), (List.map (fun y : RExt => (y.1, y.2.1.l)) xs)))) 5] := by
 have hbs := ib.small
 have hza := allB_all hqn
 have hzb : List.length (begF vv ar b).1 = 35 + List.length b := by rw [begF, wput_len, List.length_append, beN_len, har]
 have hzl := il.small
 have hzw : List.length (wput 2 (begF vv ar b).1 (allM u16F (List.map (fun y : RU16 => y) ns)).1) = 37 + List.length b + List.length (allM u16F (List.map (fun y : RU16 => y) ns)).1 := by rw [wput_len, hzb]; omega
 refine d_0 [(0, .agg (List.toArray (([uv16 vv] : List Value) ++ ((bys ar) ++ ([.slice ab (List.length b) cb, .slice an (List.length ns) cn, .slice al (List.length xs) cl] : List Value)))))] 48 Go.Proofs.Try.func72 Go.Proofs.Try.ntmps72 (Heap.nil _) fun act0 En0 Hv0 => ?_
 refine wp_seq ?_
 refine region_from ?_
 refine f_o ?_
 refine m_m 75 (([uv16 vv] : List Value) ++ ((bys ar) ++ ([.slice ab (List.length b) cb, .slice an (List.length ns) cn, .slice al (List.length xs) cl] : List Value))) En0 Hv0 fun ac2 wo3 bk1 En4 Hv5 => ?_
 refine d_e [1,2] [] En4 fun ac6 En7 => ?_
 refine then_normal ?_
 refine wp_seq ?_
 refine region_from ?_
 refine f_o ?_
 refine m_a 0 0 36 (([uv16 vv] : List Value) ++ ((bys ar) ++ ([.slice ab (List.length b) cb, .slice an (List.length ns) cn, .slice al (List.length xs) cl] : List Value))) En7 Hv5 rfl (load_whole (len_app rfl (len_app (bys_lenh har) rfl))) (len_app rfl (len_app (bys_lenh har) rfl)) fun ac8 En9 => ?_
 refine f_o ?_
 refine c_0 En9 Hv5 (begw_go _ vv ar har ab cb b an al (List.length ns) cn (List.length xs) cl ((ib.ev Hv5).pick [] (by kernel_rfl)) (by omega)) ?_
 rintro _ wo14 ⟨bw10, wa11, wc12, rfl, he15⟩
 refine ⟨_, _, _, rfl, he15, rfl, fun ac17 En18 Hv19 => ?_⟩
 refine d_e [1,2,3] [] En18 fun ac20 En21 => ?_
 refine then_normal ?_
 refine wp_seq ?_
 refine region_from ?_
 refine d_k [1,2,3,7,8] [] 2 En21 fun ac22 En23 => ?_
 refine f_o ?_
 refine m_v 2 34 (.slice an (List.length ns) cn) En23 Hv19 rfl (seg_skip (n := 1) (j := 33) rfl (seg_skip (n := 32) (j := 1) (bys_lenh har) rfl)) fun ac24 En25 => ?_
 refine f_o ?_
 refine c_l [0,1] (M := [.box bw10 [.slice wa11 (List.length ((begF vv ar b).1)) wc12, .bool ((begF vv ar b).2)] 115, .vec wa11 wc12 1 (bys ((begF vv ar b).1)) 5]) En25 Hv19 (fun hM28 => all_u16 _ bw10 wa11 wc12 ((begF vv ar b).1) ((begF vv ar b).2) 2 (by omega) 2 (by omega) an cn ns (iln.go Hv19 [0, 1] (by kernel_rfl) (fun _ h => h)) (fun i _ => Nat.le_trans (hqn i) (by decide)) (by omega) hM28) ?_
 rintro _ wo29 ⟨wa26, wc27, rfl, he30⟩
 refine ⟨_, _, [.box bw10 [.slice wa26 (List.length (wput 2 ((begF vv ar b).1) (allM u16F (List.map (fun y : RU16 => y) ns)).1)) wc27, .bool (wbad 2 2 16777215 (List.length (allM u16F (List.map (fun y : RU16 => y) ns)).1) (((begF vv ar b).2) || (allM u16F (List.map (fun y : RU16 => y) ns)).2))] 115, .vec wa26 wc27 1 (bys (wput 2 ((begF vv ar b).1) (allM u16F (List.map (fun y : RU16 => y) ns)).1)) 5, .box bk1 (([uv16 vv] : List Value) ++ ((bys ar) ++ ([.slice ab (List.length b) cb, .slice an (List.length ns) cn, .slice al (List.length xs) cl] : List Value))) 75], rfl, he30, by kernel_rfl, fun ac32 En33 Hv34 => ?_⟩
 refine f_e ?_
 refine then_normal ?_
 refine wp_seq ?_
 refine region_from ?_
 refine d_k [1,2,3,11,14] [] 4 En33 fun ac35 En36 => ?_
 refine f_o ?_
 refine m_l 0 En36 Hv34 fun ac37 En38 => ?_
 refine f_o ?_
 refine op_lit (d := some 16) (t := 23) (T := 5) (m := 2) (parts := #[(0, .int .u8 1), (1, .int .u8 0)]) (xs := bys [(1 : UInt8), (0 : UInt8)]) (sz := 1) En38 (by kernel_rfl) (by kernel_rfl) rfl (by decide) Hv34 ?_
 intro ac40 wo41 bk39 En42 Hv43
 refine f_o ?_
 refine op_append (d := some 17) (t := 23) (tx := 23) (ty := 23) (k := 1) (p := List.length (wput 2 ((begF vv ar b).1) (allM u16F (List.map (fun y : RU16 => y) ns)).1)) (m := 2) (x := .slice (some ⟨bk39, 0, none⟩) 2 2) (bytes := 1) En42 (by kernel_rfl) Hv43 rfl (bys_len _) (Reads.src (size := 1) (tx := 23) (e' := 5) (by kernel_rfl) (Hv43.heap.reads (k := 3) rfl) rfl (fun e => by cases e) (bys_one _)) (by kernel_rfl) (z := .int .u8 0) (by kernel_rfl) rfl (by decide) (by first | omega | (simp [beN_len]; done) | (simp [beN_len]; omega)) (by unfold maxLen; first | omega | (simp [beN_len]; done) | (simp [beN_len]; omega)) ?_
 intro ac48 wo49 ao44 cp45 En50 Hv51 hnz _
 clear hnz
 rw [← bys_append] at Hv51
 have ehz46 : (List.length (wput 2 ((begF vv ar b).1) (allM u16F (List.map (fun y : RU16 => y) ns)).1)) + 2 = List.length ((wput 2 ((begF vv ar b).1) (allM u16F (List.map (fun y : RU16 => y) ns)).1) ++ [(1 : UInt8), (0 : UInt8)]) := (by first | (simp; done) | (simp; omega) | omega)
 rw [ehz46] at En50
 refine d_k [1,2,3,17,19] [] 9 En50 fun ac52 En53 => ?_
 refine f_o ?_
 refine m_s 0 [.box bw10 [.slice ao44 (List.length ((wput 2 ((begF vv ar b).1) (allM u16F (List.map (fun y : RU16 => y) ns)).1) ++ [(1 : UInt8), (0 : UInt8)])) cp45, .bool (wbad 2 2 16777215 (List.length (allM u16F (List.map (fun y : RU16 => y) ns)).1) (((begF vv ar b).2) || (allM u16F (List.map (fun y : RU16 => y) ns)).2))] 115, .vec ao44 cp45 1 (bys ((wput 2 ((begF vv ar b).1) (allM u16F (List.map (fun y : RU16 => y) ns)).1) ++ [(1 : UInt8), (0 : UInt8)])) 5, .box bk1 (([uv16 vv] : List Value) ++ ((bys ar) ++ ([.slice ab (List.length b) cb, .slice an (List.length ns) cn, .slice al (List.length xs) cl] : List Value))) 75, .vec (some ⟨bk39, 0, none⟩) 2 1 (bys [(1 : UInt8), (0 : UInt8)]) 5] En53 Hv51 fun ac54 wo55 En56 Hv57 => ?_
 refine f_e ?_
 refine then_normal ?_
 refine wp_seq ?_
 refine region_from ?_
 refine d_k [1,2,3,20] [] 1 En56 fun ac58 En59 => ?_
 refine f_o ?_
 refine m_v 2 35 (.slice al (List.length xs) cl) En59 Hv57 rfl (seg_skip (n := 1) (j := 34) rfl (seg_skip (n := 32) (j := 2) (bys_lenh har) rfl)) fun ac60 En61 => ?_
 refine f_o ?_
 refine c_p En61 Hv57 (ixw_go _ 41 rfl al cl xs (il.go Hv57 [] (by kernel_rfl) (fun _ h => ⟨h.1, (InB.ev h.2.1 Hv57).pick [] (by kernel_rfl), h.2.2⟩))) fun ac66 wo63 En67 Hv68 => ?_
 refine d_e [1,2,3,4] [] En67 fun ac69 En70 => ?_
 refine then_normal ?_
 refine wp_seq ?_
 refine region_cut (F := fun ac wo => ∃ (b2 : Bool), Env ac 48 [(1, pt bk1), (2, .slice none 0 0), (3, pt bw10), (4, .int .i64 (fdI 41 (List.map (fun y : RExt => (y.1, y.2.1.l)) xs)))] ∧ Ev w [] wo [.box bw10 [.slice ao44 (List.length ((wput 2 ((begF vv ar b).1) (allM u16F (List.map (fun y : RU16 => y) ns)).1) ++ [(1 : UInt8), (0 : UInt8)])) cp45, .bool b2] 115, .vec ao44 cp45 1 (bys ((wput 2 ((begF vv ar b).1) (allM u16F (List.map (fun y : RU16 => y) ns)).1) ++ [(1 : UInt8), (0 : UInt8)])) 5, .box bk1 (([uv16 vv] : List Value) ++ ((bys ar) ++ ([.slice ab (List.length b) cb, .slice an (List.length ns) cn, .slice al (List.length xs) cl] : List Value))) 75, .vec (some ⟨bk39, 0, none⟩) 2 1 (bys [(1 : UInt8), (0 : UInt8)]) 5] ∧ (b2 = ((wbad 2 2 16777215 (List.length (allM u16F (List.map (fun y : RU16 => y) ns)).1) (((begF vv ar b).2) || (allM u16F (List.map (fun y : RU16 => y) ns)).2)) || lastQ (List.map (fun y : RExt => (y.1, y.2.1.l)) xs)))) ?_ ?_
 ·
  refine region_from ?_
  refine d_k [1,2,3,4,23,26] [] 4 En70 fun ac71 En72 => ?_
  refine f_o ?_
  refine m_l 0 En72 Hv68 fun ac73 En74 => ?_
  refine d_k [1,2,3,4,23,28] [] 6 En74 fun ac75 En76 => ?_
  rcases Bool.eq_false_or_eq_true (wbad 2 2 16777215 (List.length (allM u16F (List.map (fun y : RU16 => y) ns)).1) (((begF vv ar b).2) || (allM u16F (List.map (fun y : RU16 => y) ns)).2)) with hb77 | hb77
  ·
   have En78 := En76.fx (t := 28) (congrArg Value.bool hb77)
   have hp79 : wbad 2 2 16777215 (List.length (allM u16F (List.map (fun y : RU16 => y) ns)).1) (((begF vv ar b).2) || (allM u16F (List.map (fun y : RU16 => y) ns)).2) = true := hb77
   refine d_k [1,2,3,4,39,41] [] 19 En78 fun ac80 En81 => ?_
   refine f_o ?_
   refine m_s 0 [.box bw10 [.slice ao44 (List.length ((wput 2 ((begF vv ar b).1) (allM u16F (List.map (fun y : RU16 => y) ns)).1) ++ [(1 : UInt8), (0 : UInt8)])) cp45, .bool true] 115, .vec ao44 cp45 1 (bys ((wput 2 ((begF vv ar b).1) (allM u16F (List.map (fun y : RU16 => y) ns)).1) ++ [(1 : UInt8), (0 : UInt8)])) 5, .box bk1 (([uv16 vv] : List Value) ++ ((bys ar) ++ ([.slice ab (List.length b) cb, .slice an (List.length ns) cn, .slice al (List.length xs) cl] : List Value))) 75, .vec (some ⟨bk39, 0, none⟩) 2 1 (bys [(1 : UInt8), (0 : UInt8)]) 5] En81 Hv68 fun ac82 wo83 En84 Hv85 => ?_
   refine f_e ?_
   exact ⟨rfl, ⟨true, En84.sb, Hv85.pk [0, 1, 2, 3], (by first | exact lq_t (by assumption) | exact lq_n (by assumption) (by omega) | exact lq_f (by assumption) (by omega))⟩⟩
  ·
   have En86 := En76.fx (t := 28) (congrArg Value.bool hb77)
   have hp87 : ¬ (wbad 2 2 16777215 (List.length (allM u16F (List.map (fun y : RU16 => y) ns)).1) (((begF vv ar b).2) || (allM u16F (List.map (fun y : RU16 => y) ns)).2) = true) := Bool.eq_false_iff.1 hb77
   refine d_k [1,2,3,4,23,28,31] [] 9 En86 fun ac88 En89 => ?_
   rcases Bool.eq_false_or_eq_true (decide (fdI 41 (List.map (fun y : RExt => (y.1, y.2.1.l)) xs) ≥ (0 : Int))) with hb90 | hb90
   ·
    have En91 := En89.fx (t := 31) (congrArg Value.bool hb90)
    have hp92 : fdI 41 (List.map (fun y : RExt => (y.1, y.2.1.l)) xs) ≥ (0 : Int) := of_decide_eq_true hb90
    refine d_k [1,2,3,4,23,28,31,32,33] [] 11 En91 fun ac93 En94 => ?_
    refine f_o ?_
    refine m_v 2 35 (.slice al (List.length xs) cl) En94 Hv68 rfl (seg_skip (n := 1) (j := 34) rfl (seg_skip (n := 32) (j := 2) (bys_lenh har) rfl)) fun ac95 En96 => ?_
    refine d_k [1,2,3,4,39,41] [(13, g_n (w_r (e := ((List.length xs : Nat) : Int) - (1 : Int)) (x := ((List.length xs : Nat) : Int) - (1 : Int)) (by omega)))] 19 En96 fun ac97 En98 => ?_
    refine f_o ?_
    refine m_s 0 [.box bw10 [.slice ao44 (List.length ((wput 2 ((begF vv ar b).1) (allM u16F (List.map (fun y : RU16 => y) ns)).1) ++ [(1 : UInt8), (0 : UInt8)])) cp45, .bool (decide (fdI 41 (List.map (fun y : RExt => (y.1, y.2.1.l)) xs) < ((List.length xs : Nat) : Int) - (1 : Int)))] 115, .vec ao44 cp45 1 (bys ((wput 2 ((begF vv ar b).1) (allM u16F (List.map (fun y : RU16 => y) ns)).1) ++ [(1 : UInt8), (0 : UInt8)])) 5, .box bk1 (([uv16 vv] : List Value) ++ ((bys ar) ++ ([.slice ab (List.length b) cb, .slice an (List.length ns) cn, .slice al (List.length xs) cl] : List Value))) 75, .vec (some ⟨bk39, 0, none⟩) 2 1 (bys [(1 : UInt8), (0 : UInt8)]) 5] En98 Hv68 fun ac99 wo100 En101 Hv102 => ?_
    refine f_e ?_
    exact ⟨rfl, ⟨(decide (fdI 41 (List.map (fun y : RExt => (y.1, y.2.1.l)) xs) < ((List.length xs : Nat) : Int) - (1 : Int))), En101.sb, Hv102.pk [0, 1, 2, 3], (by first | exact lq_t (by assumption) | exact lq_n (by assumption) (by omega) | exact lq_f (by assumption) (by omega))⟩⟩
   ·
    have En103 := En89.fx (t := 31) (congrArg Value.bool hb90)
    have hp104 : ¬ (fdI 41 (List.map (fun y : RExt => (y.1, y.2.1.l)) xs) ≥ (0 : Int)) := of_decide_eq_false hb90
    refine d_k [1,2,3,4,39,41] [] 19 En103 fun ac105 En106 => ?_
    refine f_o ?_
    refine m_s 0 [.box bw10 [.slice ao44 (List.length ((wput 2 ((begF vv ar b).1) (allM u16F (List.map (fun y : RU16 => y) ns)).1) ++ [(1 : UInt8), (0 : UInt8)])) cp45, .bool false] 115, .vec ao44 cp45 1 (bys ((wput 2 ((begF vv ar b).1) (allM u16F (List.map (fun y : RU16 => y) ns)).1) ++ [(1 : UInt8), (0 : UInt8)])) 5, .box bk1 (([uv16 vv] : List Value) ++ ((bys ar) ++ ([.slice ab (List.length b) cb, .slice an (List.length ns) cn, .slice al (List.length xs) cl] : List Value))) 75, .vec (some ⟨bk39, 0, none⟩) 2 1 (bys [(1 : UInt8), (0 : UInt8)]) 5] En106 Hv68 fun ac107 wo108 En109 Hv110 => ?_
    refine f_e ?_
    exact ⟨rfl, ⟨false, En109.sb, Hv110.pk [0, 1, 2, 3], (by first | exact lq_t (by assumption) | exact lq_n (by assumption) (by omega) | exact lq_f (by assumption) (by omega))⟩⟩
 ·
  rintro ac111 wo112 ⟨b2, En113, Hv114, hb2⟩
  refine then_normal ?_
  refine wp_seq ?_
  subst hb2
  refine region_from ?_
  refine d_k [1,2,3,4,42,43] [] 2 En113 fun ac115 En116 => ?_
  refine f_o ?_
  refine m_v 2 35 (.slice al (List.length xs) cl) En116 Hv114 rfl (seg_skip (n := 1) (j := 34) rfl (seg_skip (n := 32) (j := 2) (bys_lenh har) rfl)) fun ac117 En118 => ?_
  refine f_o ?_
  refine c_l [0,1] (M := [.box bw10 [.slice ao44 (List.length ((wput 2 ((begF vv ar b).1) (allM u16F (List.map (fun y : RU16 => y) ns)).1) ++ [(1 : UInt8), (0 : UInt8)])) cp45, .bool ((wbad 2 2 16777215 (List.length (allM u16F (List.map (fun y : RU16 => y) ns)).1) (((begF vv ar b).2) || (allM u16F (List.map (fun y : RU16 => y) ns)).2)) || lastQ (List.map (fun y : RExt => (y.1, y.2.1.l)) xs))] 115, .vec ao44 cp45 1 (bys ((wput 2 ((begF vv ar b).1) (allM u16F (List.map (fun y : RU16 => y) ns)).1) ++ [(1 : UInt8), (0 : UInt8)])) 5]) En118 Hv114 (fun hM121 => wexts_go _ bw10 ao44 cp45 ((wput 2 ((begF vv ar b).1) (allM u16F (List.map (fun y : RU16 => y) ns)).1) ++ [(1 : UInt8), (0 : UInt8)]) ((wbad 2 2 16777215 (List.length (allM u16F (List.map (fun y : RU16 => y) ns)).1) (((begF vv ar b).2) || (allM u16F (List.map (fun y : RU16 => y) ns)).2)) || lastQ (List.map (fun y : RExt => (y.1, y.2.1.l)) xs)) al cl xs (il.go Hv114 [0, 1] (by kernel_rfl) (fun _ h => ⟨h.1, (InB.ev h.2.1 Hv114).pick [0, 1] (by kernel_rfl), h.2.2⟩)) (by omega) (by first | omega | (simp only [List.length_nil, List.length_append, beN_len]; omega) | (simp only [u16F, beN_len, List.length_nil, List.length_append]; omega) | (simp only [wput_len, beN_len, List.length_nil, List.length_append]; omega) | (simp [wput_len, beN_len]; done) | (simp [wput_len, beN_len]; omega)) hM121) ?_
  rintro _ wo122 ⟨wa119, wc120, rfl, he123⟩
  refine ⟨_, _, [.box bw10 [.slice wa119 (List.length ((wexF ((wput 2 ((begF vv ar b).1) (allM u16F (List.map (fun y : RU16 => y) ns)).1) ++ [(1 : UInt8), (0 : UInt8)], (wbad 2 2 16777215 (List.length (allM u16F (List.map (fun y : RU16 => y) ns)).1) (((begF vv ar b).2) || (allM u16F (List.map (fun y : RU16 => y) ns)).2)) || lastQ (List.map (fun y : RExt => (y.1, y.2.1.l)) xs)) (List.map (fun y : RExt => (y.1, y.2.1.l)) xs)).1)) wc120, .bool ((wexF ((wput 2 ((begF vv ar b).1) (allM u16F (List.map (fun y : RU16 => y) ns)).1) ++ [(1 : UInt8), (0 : UInt8)], (wbad 2 2 16777215 (List.length (allM u16F (List.map (fun y : RU16 => y) ns)).1) (((begF vv ar b).2) || (allM u16F (List.map (fun y : RU16 => y) ns)).2)) || lastQ (List.map (fun y : RExt => (y.1, y.2.1.l)) xs)) (List.map (fun y : RExt => (y.1, y.2.1.l)) xs)).2)] 115, .vec wa119 wc120 1 (bys ((wexF ((wput 2 ((begF vv ar b).1) (allM u16F (List.map (fun y : RU16 => y) ns)).1) ++ [(1 : UInt8), (0 : UInt8)], (wbad 2 2 16777215 (List.length (allM u16F (List.map (fun y : RU16 => y) ns)).1) (((begF vv ar b).2) || (allM u16F (List.map (fun y : RU16 => y) ns)).2)) || lastQ (List.map (fun y : RExt => (y.1, y.2.1.l)) xs)) (List.map (fun y : RExt => (y.1, y.2.1.l)) xs)).1)) 5, .box bk1 (([uv16 vv] : List Value) ++ ((bys ar) ++ ([.slice ab (List.length b) cb, .slice an (List.length ns) cn, .slice al (List.length xs) cl] : List Value))) 75, .vec (some ⟨bk39, 0, none⟩) 2 1 (bys [(1 : UInt8), (0 : UInt8)]) 5], rfl, he123, by kernel_rfl, fun ac125 En126 Hv127 => ?_⟩
  refine f_e ?_
  refine then_normal ?_
  refine wp_seq ?_
  refine region_from ?_
  refine d_k [1,2,3,4,46] [] 1 En126 fun ac128 En129 => ?_
  refine f_o ?_
  refine c_l [0,1] (M := [.box bw10 [.slice wa119 (List.length ((wexF ((wput 2 ((begF vv ar b).1) (allM u16F (List.map (fun y : RU16 => y) ns)).1) ++ [(1 : UInt8), (0 : UInt8)], (wbad 2 2 16777215 (List.length (allM u16F (List.map (fun y : RU16 => y) ns)).1) (((begF vv ar b).2) || (allM u16F (List.map (fun y : RU16 => y) ns)).2)) || lastQ (List.map (fun y : RExt => (y.1, y.2.1.l)) xs)) (List.map (fun y : RExt => (y.1, y.2.1.l)) xs)).1)) wc120, .bool ((wexF ((wput 2 ((begF vv ar b).1) (allM u16F (List.map (fun y : RU16 => y) ns)).1) ++ [(1 : UInt8), (0 : UInt8)], (wbad 2 2 16777215 (List.length (allM u16F (List.map (fun y : RU16 => y) ns)).1) (((begF vv ar b).2) || (allM u16F (List.map (fun y : RU16 => y) ns)).2)) || lastQ (List.map (fun y : RExt => (y.1, y.2.1.l)) xs)) (List.map (fun y : RExt => (y.1, y.2.1.l)) xs)).2)] 115, .vec wa119 wc120 1 (bys ((wexF ((wput 2 ((begF vv ar b).1) (allM u16F (List.map (fun y : RU16 => y) ns)).1) ++ [(1 : UInt8), (0 : UInt8)], (wbad 2 2 16777215 (List.length (allM u16F (List.map (fun y : RU16 => y) ns)).1) (((begF vv ar b).2) || (allM u16F (List.map (fun y : RU16 => y) ns)).2)) || lastQ (List.map (fun y : RExt => (y.1, y.2.1.l)) xs)) (List.map (fun y : RExt => (y.1, y.2.1.l)) xs)).1)) 5]) En129 Hv127 (fun hM132 => wdone_go _ bw10 wa119 wc120 ((wexF ((wput 2 ((begF vv ar b).1) (allM u16F (List.map (fun y : RU16 => y) ns)).1) ++ [(1 : UInt8), (0 : UInt8)], (wbad 2 2 16777215 (List.length (allM u16F (List.map (fun y : RU16 => y) ns)).1) (((begF vv ar b).2) || (allM u16F (List.map (fun y : RU16 => y) ns)).2)) || lastQ (List.map (fun y : RExt => (y.1, y.2.1.l)) xs)) (List.map (fun y : RExt => (y.1, y.2.1.l)) xs)).1) ((wexF ((wput 2 ((begF vv ar b).1) (allM u16F (List.map (fun y : RU16 => y) ns)).1) ++ [(1 : UInt8), (0 : UInt8)], (wbad 2 2 16777215 (List.length (allM u16F (List.map (fun y : RU16 => y) ns)).1) (((begF vv ar b).2) || (allM u16F (List.map (fun y : RU16 => y) ns)).2)) || lastQ (List.map (fun y : RExt => (y.1, y.2.1.l)) xs)) (List.map (fun y : RExt => (y.1, y.2.1.l)) xs)).2) hM132) ?_
  rintro _ wo133 ⟨da130, dc131, rfl, he134⟩
  refine ⟨_, _, [.vec da130 dc131 1 (bys (doneL ((wexF ((wput 2 ((begF vv ar b).1) (allM u16F (List.map (fun y : RU16 => y) ns)).1) ++ [(1 : UInt8), (0 : UInt8)], (wbad 2 2 16777215 (List.length (allM u16F (List.map (fun y : RU16 => y) ns)).1) (((begF vv ar b).2) || (allM u16F (List.map (fun y : RU16 => y) ns)).2)) || lastQ (List.map (fun y : RExt => (y.1, y.2.1.l)) xs)) (List.map (fun y : RExt => (y.1, y.2.1.l)) xs)).2) ((wexF ((wput 2 ((begF vv ar b).1) (allM u16F (List.map (fun y : RU16 => y) ns)).1) ++ [(1 : UInt8), (0 : UInt8)], (wbad 2 2 16777215 (List.length (allM u16F (List.map (fun y : RU16 => y) ns)).1) (((begF vv ar b).2) || (allM u16F (List.map (fun y : RU16 => y) ns)).2)) || lastQ (List.map (fun y : RExt => (y.1, y.2.1.l)) xs)) (List.map (fun y : RExt => (y.1, y.2.1.l)) xs)).1))) 5, .box bk1 (([uv16 vv] : List Value) ++ ((bys ar) ++ ([.slice ab (List.length b) cb, .slice an (List.length ns) cn, .slice al (List.length xs) cl] : List Value))) 75, .vec (some ⟨bk39, 0, none⟩) 2 1 (bys [(1 : UInt8), (0 : UInt8)]) 5], rfl, he134, by kernel_rfl, fun ac136 En137 Hv138 => ?_⟩
  refine d_e [1,2,3,4] [] En137 fun ac139 En140 => ?_
  refine then_normal ?_
  refine wp_ret ?_
  refine d_ret1 (t := 2) (v := .slice da130 (List.length (doneL ((wexF ((wput 2 ((begF vv ar b).1) (allM u16F (List.map (fun y : RU16 => y) ns)).1) ++ [(1 : UInt8), (0 : UInt8)], (wbad 2 2 16777215 (List.length (allM u16F (List.map (fun y : RU16 => y) ns)).1) (((begF vv ar b).2) || (allM u16F (List.map (fun y : RU16 => y) ns)).2)) || lastQ (List.map (fun y : RExt => (y.1, y.2.1.l)) xs)) (List.map (fun y : RExt => (y.1, y.2.1.l)) xs)).2) ((wexF ((wput 2 ((begF vv ar b).1) (allM u16F (List.map (fun y : RU16 => y) ns)).1) ++ [(1 : UInt8), (0 : UInt8)], (wbad 2 2 16777215 (List.length (allM u16F (List.map (fun y : RU16 => y) ns)).1) (((begF vv ar b).2) || (allM u16F (List.map (fun y : RU16 => y) ns)).2)) || lastQ (List.map (fun y : RExt => (y.1, y.2.1.l)) xs)) (List.map (fun y : RExt => (y.1, y.2.1.l)) xs)).1))) dc131) En140 (by kernel_rfl) (by kernel_rfl) ?_
  exact ⟨da130, dc131, rfl, Hv138.pk [0]⟩

theorem pserver_go (w : World) (vv : UInt16) (ar : Bs) (har : List.length ar = 32) (ab : Option Addr) (cb : Nat) (b : Bs) (an : Option Addr) (cn : Nat) (ns : List RU16) (al : Option Addr) (cl : Nat) (xs : List RExt) (ib : InB w [] ab cb b) (iln : InS fU16 2 (fun y : RU16 => True) w [] an cn ns) (il : InS fExt 32 (fun y : RExt => (True ∧ (InB w [] y.2.1.a y.2.1.c y.2.1.l ∧ (True)))) w [] al cl xs) (hq0 : List.length (allM exF (List.map (fun y : RExt => (y.1, y.2.1.l)) xs)).1 ≤ 16777216) (hqn : allB u16F (List.map (fun y : RU16 => y) ns)) (hbt : List.length b ≤ 16777216) : Calls Try.prog 74 #[.agg (List.toArray (([uv16 vv] : List Value) ++ ((bys ar) ++ ([.slice ab (List.length b) cb, .slice an (List.length ns) cn, .slice al (List.length xs) cl] : List Value))))] w fun e w' => ∃ a' c', e = .returned (.slice a' (List.length (srvP (vv, ar, b, (List.map (fun y : RU16 => y) ns), (List.map (fun y : RExt => (y.1, y.2.1.l)) xs)))) c') ∧ Ev w [] w' [.vec a' c' 1 (bys (srvP (vv, ar, b, (List.map (fun y : RU16 => y) ns), (List.map (fun y : RExt => (y.1, y.2.1.l)) xs)))) 5] := by
 have hbs := ib.small
 have hza := allB_all hqn
 have hzb : List.length (begF vv ar b).1 = 35 + List.length b := by rw [begF, wput_len, List.length_append, beN_len, har]
 have hzl := il.small
 refine d_0 [(0, .agg (List.toArray (([uv16 vv] : List Value) ++ ((bys ar) ++ ([.slice ab (List.length b) cb, .slice an (List.length ns) cn, .slice al (List.length xs) cl] : List Value)))))] 31 Go.Proofs.Try.func74 Go.Proofs.Try.ntmps74 (Heap.nil _) fun act0 En0 Hv0 => ?_
 refine wp_seq ?_
 refine region_from ?_
 refine f_o ?_
 refine m_m 75 (([uv16 vv] : List Value) ++ ((bys ar) ++ ([.slice ab (List.length b) cb, .slice an (List.length ns) cn, .slice al (List.length xs) cl] : List Value))) En0 Hv0 fun ac2 wo3 bk1 En4 Hv5 => ?_
 refine d_e [1,2] [] En4 fun ac6 En7 => ?_
 refine then_normal ?_
 refine wp_seq ?_
 refine wp_seq ?_
 refine region_from ?_
 refine d_k [1,2,4] [] 1 En7 fun ac8 En9 => ?_
 refine f_o ?_
 refine m_v 0 34 (.slice an (List.length ns) cn) En9 Hv5 rfl (seg_skip (n := 1) (j := 33) rfl (seg_skip (n := 32) (j := 1) (bys_lenh har) rfl)) fun ac10 En11 => ?_
 refine d_e [1,2,7] [] En11 fun ac12 En13 => ?_
 refine then_normal ?_
 refine c_n ((List.length ns : Nat) : Int) (1 : Int) En13 (fun hc14 => ?_) (fun hc14 => ?_)
 ·
  refine wp_seq ?_
  refine d_r [1,2] [] En13 fun ac15 En16 => ?_
  refine then_normal ?_
  refine wp_ret ?_
  refine then_ret ?_
  refine d_ret1 (t := 2) (v := .slice none 0 0) En16 (by kernel_rfl) (by kernel_rfl) ?_
  have hn0 : srvP (vv, ar, b, (List.map (fun y : RU16 => y) ns), (List.map (fun y : RExt => (y.1, y.2.1.l)) xs)) = [] := srv_n (by show ¬ List.length (List.map (fun y : RU16 => y) ns) = 1; rw [List.length_map]; first | assumption | omega)
  rw [hn0]
  exact ⟨none, 0, rfl, (Ev.nil (sz := 1) (T := 5) Hv5).pk [1]⟩
 ·
  refine wp_skip ?_
  refine then_normal ?_
  refine wp_seq ?_
  refine region_from ?_
  refine f_o ?_
  refine m_a 0 0 36 (([uv16 vv] : List Value) ++ ((bys ar) ++ ([.slice ab (List.length b) cb, .slice an (List.length ns) cn, .slice al (List.length xs) cl] : List Value))) En13 Hv5 rfl (load_whole (len_app rfl (len_app (bys_lenh har) rfl))) (len_app rfl (len_app (bys_lenh har) rfl)) fun ac17 En18 => ?_
  refine f_o ?_
  refine c_0 En18 Hv5 (begw_go _ vv ar har ab cb b an al (List.length ns) cn (List.length xs) cl ((ib.ev Hv5).pick [] (by kernel_rfl)) (by omega)) ?_
  rintro _ wo23 ⟨bw19, wa20, wc21, rfl, he24⟩
  refine ⟨_, _, _, rfl, he24, rfl, fun ac26 En27 Hv28 => ?_⟩
  refine d_e [1,2,3] [] En27 fun ac29 En30 => ?_
  refine then_normal ?_
  refine wp_seq ?_
  have hn1 : List.length ns = 1 := by first | assumption | exact Classical.not_not.1 (by assumption) | omega
  have hb31 : 0 < List.length ns := by omega
  obtain ⟨x33, hx32⟩ : ∃ x, (ns)[0]? = some x := ⟨_, List.getElem?_eq_getElem hb31⟩
  obtain _ := iln.each _ (List.mem_of_getElem? hx32)
  have hzu : List.length (u16F ((begF vv ar b).1, (begF vv ar b).2) x33).1 = 37 + List.length b := by rw [u16F, List.length_append, beN_len]; show List.length (begF vv ar b).1 + 2 = _; omega
  have hzv : List.length ((u16F ((begF vv ar b).1, (begF vv ar b).2) x33).1 ++ [0]) = 38 + List.length b := by rw [List.length_append, hzu]; show 37 + List.length b + 1 = _; omega
  refine region_from ?_
  refine d_k [1,2,3,10,11] [] 2 En30 fun ac34 En35 => ?_
  refine f_o ?_
  refine m_v 2 34 (.slice an (List.length ns) cn) En35 Hv28 rfl (seg_skip (n := 1) (j := 33) rfl (seg_skip (n := 32) (j := 1) (bys_lenh har) rfl)) fun ac36 En37 => ?_
  have hb40 : 0 < List.length ns := (by omega)
  obtain ⟨adr38, had39⟩ := some_of iln.nz hb40
  refine f_o ?_
  refine q_v (x := Instr.indexAt 32 (.slice an (List.length ns) cn) (.int .i64 0)) (v := .pointer (some (Addr.add adr38 0))) En37 (Go.Dbr.run_indexsl (e := 37) (sz := 1) (j := 0) (jo := 0) had39 (by kernel_rfl) (by kernel_rfl) (by omega) hb40 (Nat.mul_one _) _) fun ac41 En42 => ?_
  refine f_o ?_
  refine op_loadf (d := some 14) (t := 37) (ad := adr38) (ao := an) (ys := List.flatMap fU16 ns) (o := 0) (v := uv16 x33) En42 (by kernel_rfl) rfl (iln.ro.ev Hv28).reads had39 ((flat_get1 (fun _ _ => rfl) hx32).trans rfl) (by kernel_rfl) ?_
  intro ac43 En44
  refine f_o ?_
  refine c_l [0,1] (M := [.box bw19 [.slice wa20 (List.length ((begF vv ar b).1)) wc21, .bool ((begF vv ar b).2)] 115, .vec wa20 wc21 1 (bys ((begF vv ar b).1)) 5]) En44 Hv28 (fun hM47 => wu16_go _ bw19 wa20 wc21 ((begF vv ar b).1) ((begF vv ar b).2) x33 (by first | omega | (simp only [List.length_nil, List.length_append, beN_len]; omega) | (simp only [u16F, beN_len, List.length_nil, List.length_append]; omega) | (simp only [wput_len, beN_len, List.length_nil, List.length_append]; omega) | (simp [wput_len, beN_len]; done) | (simp [wput_len, beN_len]; omega)) hM47) ?_
  rintro _ wo48 ⟨wa45, wc46, rfl, he49⟩
  refine ⟨_, _, [.box bw19 [.slice wa45 (List.length ((u16F ((begF vv ar b).1, (begF vv ar b).2) x33).1)) wc46, .bool ((u16F ((begF vv ar b).1, (begF vv ar b).2) x33).2)] 115, .vec wa45 wc46 1 (bys ((u16F ((begF vv ar b).1, (begF vv ar b).2) x33).1)) 5, .box bk1 (([uv16 vv] : List Value) ++ ((bys ar) ++ ([.slice ab (List.length b) cb, .slice an (List.length ns) cn, .slice al (List.length xs) cl] : List Value))) 75], rfl, he49, by kernel_rfl, fun ac51 En52 Hv53 => ?_⟩
  refine f_e ?_
  refine then_normal ?_
  refine wp_seq ?_
  refine region_from ?_
  refine d_k [1,2,3,16,19] [] 4 En52 fun ac54 En55 => ?_
  refine f_o ?_
  refine m_l 0 En55 Hv53 fun ac56 En57 => ?_
  refine f_o ?_
  refine op_lit (d := some 21) (t := 23) (T := 5) (m := 1) (parts := #[(0, .int .u8 0)]) (xs := bys [(0 : UInt8)]) (sz := 1) En57 (by kernel_rfl) (by kernel_rfl) rfl (by decide) Hv53 ?_
  intro ac59 wo60 bk58 En61 Hv62
  refine f_o ?_
  refine op_append (d := some 22) (t := 23) (tx := 23) (ty := 23) (k := 1) (p := List.length ((u16F ((begF vv ar b).1, (begF vv ar b).2) x33).1)) (m := 1) (x := .slice (some ⟨bk58, 0, none⟩) 1 1) (bytes := 1) En61 (by kernel_rfl) Hv62 rfl (bys_len _) (Reads.src (size := 1) (tx := 23) (e' := 5) (by kernel_rfl) (Hv62.heap.reads (k := 3) rfl) rfl (fun e => by cases e) (bys_one _)) (by kernel_rfl) (z := .int .u8 0) (by kernel_rfl) rfl (by decide) (by first | omega | (simp [beN_len]; done) | (simp [beN_len]; omega)) (by unfold maxLen; first | omega | (simp [beN_len]; done) | (simp [beN_len]; omega)) ?_
  intro ac67 wo68 ao63 cp64 En69 Hv70 hnz _
  clear hnz
  rw [← bys_append] at Hv70
  have ehz65 : (List.length ((u16F ((begF vv ar b).1, (begF vv ar b).2) x33).1)) + 1 = List.length (((u16F ((begF vv ar b).1, (begF vv ar b).2) x33).1) ++ [(0 : UInt8)]) := (by first | (simp; done) | (simp; omega) | omega)
  rw [ehz65] at En69
  refine d_k [1,2,3,22,24] [] 9 En69 fun ac71 En72 => ?_
  refine f_o ?_
  refine m_s 0 [.box bw19 [.slice ao63 (List.length (((u16F ((begF vv ar b).1, (begF vv ar b).2) x33).1) ++ [(0 : UInt8)])) cp64, .bool ((u16F ((begF vv ar b).1, (begF vv ar b).2) x33).2)] 115, .vec ao63 cp64 1 (bys (((u16F ((begF vv ar b).1, (begF vv ar b).2) x33).1) ++ [(0 : UInt8)])) 5, .box bk1 (([uv16 vv] : List Value) ++ ((bys ar) ++ ([.slice ab (List.length b) cb, .slice an (List.length ns) cn, .slice al (List.length xs) cl] : List Value))) 75, .vec (some ⟨bk58, 0, none⟩) 1 1 (bys [(0 : UInt8)]) 5] En72 Hv70 fun ac73 wo74 En75 Hv76 => ?_
  refine f_e ?_
  refine then_normal ?_
  refine wp_seq ?_
  refine region_from ?_
  refine d_k [1,2,3,25,26] [] 2 En75 fun ac77 En78 => ?_
  refine f_o ?_
  refine m_v 2 35 (.slice al (List.length xs) cl) En78 Hv76 rfl (seg_skip (n := 1) (j := 34) rfl (seg_skip (n := 32) (j := 2) (bys_lenh har) rfl)) fun ac79 En80 => ?_
  refine f_o ?_
  refine c_l [0,1] (M := [.box bw19 [.slice ao63 (List.length (((u16F ((begF vv ar b).1, (begF vv ar b).2) x33).1) ++ [(0 : UInt8)])) cp64, .bool ((u16F ((begF vv ar b).1, (begF vv ar b).2) x33).2)] 115, .vec ao63 cp64 1 (bys (((u16F ((begF vv ar b).1, (begF vv ar b).2) x33).1) ++ [(0 : UInt8)])) 5]) En80 Hv76 (fun hM83 => wexts_go _ bw19 ao63 cp64 (((u16F ((begF vv ar b).1, (begF vv ar b).2) x33).1) ++ [(0 : UInt8)]) ((u16F ((begF vv ar b).1, (begF vv ar b).2) x33).2) al cl xs (il.go Hv76 [0, 1] (by kernel_rfl) (fun _ h => ⟨h.1, (InB.ev h.2.1 Hv76).pick [0, 1] (by kernel_rfl), h.2.2⟩)) (by omega) (by first | omega | (simp only [List.length_nil, List.length_append, beN_len]; omega) | (simp only [u16F, beN_len, List.length_nil, List.length_append]; omega) | (simp only [wput_len, beN_len, List.length_nil, List.length_append]; omega) | (simp [wput_len, beN_len]; done) | (simp [wput_len, beN_len]; omega)) hM83) ?_
  rintro _ wo84 ⟨wa81, wc82, rfl, he85⟩
  refine ⟨_, _, [.box bw19 [.slice wa81 (List.length ((wexF (((u16F ((begF vv ar b).1, (begF vv ar b).2) x33).1) ++ [(0 : UInt8)], (u16F ((begF vv ar b).1, (begF vv ar b).2) x33).2) (List.map (fun y : RExt => (y.1, y.2.1.l)) xs)).1)) wc82, .bool ((wexF (((u16F ((begF vv ar b).1, (begF vv ar b).2) x33).1) ++ [(0 : UInt8)], (u16F ((begF vv ar b).1, (begF vv ar b).2) x33).2) (List.map (fun y : RExt => (y.1, y.2.1.l)) xs)).2)] 115, .vec wa81 wc82 1 (bys ((wexF (((u16F ((begF vv ar b).1, (begF vv ar b).2) x33).1) ++ [(0 : UInt8)], (u16F ((begF vv ar b).1, (begF vv ar b).2) x33).2) (List.map (fun y : RExt => (y.1, y.2.1.l)) xs)).1)) 5, .box bk1 (([uv16 vv] : List Value) ++ ((bys ar) ++ ([.slice ab (List.length b) cb, .slice an (List.length ns) cn, .slice al (List.length xs) cl] : List Value))) 75, .vec (some ⟨bk58, 0, none⟩) 1 1 (bys [(0 : UInt8)]) 5], rfl, he85, by kernel_rfl, fun ac87 En88 Hv89 => ?_⟩
  refine f_e ?_
  refine then_normal ?_
  refine wp_seq ?_
  refine region_from ?_
  refine d_k [1,2,3,29] [] 1 En88 fun ac90 En91 => ?_
  refine f_o ?_
  refine c_l [0,1] (M := [.box bw19 [.slice wa81 (List.length ((wexF (((u16F ((begF vv ar b).1, (begF vv ar b).2) x33).1) ++ [(0 : UInt8)], (u16F ((begF vv ar b).1, (begF vv ar b).2) x33).2) (List.map (fun y : RExt => (y.1, y.2.1.l)) xs)).1)) wc82, .bool ((wexF (((u16F ((begF vv ar b).1, (begF vv ar b).2) x33).1) ++ [(0 : UInt8)], (u16F ((begF vv ar b).1, (begF vv ar b).2) x33).2) (List.map (fun y : RExt => (y.1, y.2.1.l)) xs)).2)] 115, .vec wa81 wc82 1 (bys ((wexF (((u16F ((begF vv ar b).1, (begF vv ar b).2) x33).1) ++ [(0 : UInt8)], (u16F ((begF vv ar b).1, (begF vv ar b).2) x33).2) (List.map (fun y : RExt => (y.1, y.2.1.l)) xs)).1)) 5]) En91 Hv89 (fun hM94 => wdone_go _ bw19 wa81 wc82 ((wexF (((u16F ((begF vv ar b).1, (begF vv ar b).2) x33).1) ++ [(0 : UInt8)], (u16F ((begF vv ar b).1, (begF vv ar b).2) x33).2) (List.map (fun y : RExt => (y.1, y.2.1.l)) xs)).1) ((wexF (((u16F ((begF vv ar b).1, (begF vv ar b).2) x33).1) ++ [(0 : UInt8)], (u16F ((begF vv ar b).1, (begF vv ar b).2) x33).2) (List.map (fun y : RExt => (y.1, y.2.1.l)) xs)).2) hM94) ?_
  rintro _ wo95 ⟨da92, dc93, rfl, he96⟩
  refine ⟨_, _, [.vec da92 dc93 1 (bys (doneL ((wexF (((u16F ((begF vv ar b).1, (begF vv ar b).2) x33).1) ++ [(0 : UInt8)], (u16F ((begF vv ar b).1, (begF vv ar b).2) x33).2) (List.map (fun y : RExt => (y.1, y.2.1.l)) xs)).2) ((wexF (((u16F ((begF vv ar b).1, (begF vv ar b).2) x33).1) ++ [(0 : UInt8)], (u16F ((begF vv ar b).1, (begF vv ar b).2) x33).2) (List.map (fun y : RExt => (y.1, y.2.1.l)) xs)).1))) 5, .box bk1 (([uv16 vv] : List Value) ++ ((bys ar) ++ ([.slice ab (List.length b) cb, .slice an (List.length ns) cn, .slice al (List.length xs) cl] : List Value))) 75, .vec (some ⟨bk58, 0, none⟩) 1 1 (bys [(0 : UInt8)]) 5], rfl, he96, by kernel_rfl, fun ac98 En99 Hv100 => ?_⟩
  refine d_e [1,2,3] [] En99 fun ac101 En102 => ?_
  refine then_normal ?_
  refine wp_ret ?_
  refine d_ret1 (t := 2) (v := .slice da92 (List.length (doneL ((wexF (((u16F ((begF vv ar b).1, (begF vv ar b).2) x33).1) ++ [(0 : UInt8)], (u16F ((begF vv ar b).1, (begF vv ar b).2) x33).2) (List.map (fun y : RExt => (y.1, y.2.1.l)) xs)).2) ((wexF (((u16F ((begF vv ar b).1, (begF vv ar b).2) x33).1) ++ [(0 : UInt8)], (u16F ((begF vv ar b).1, (begF vv ar b).2) x33).2) (List.map (fun y : RExt => (y.1, y.2.1.l)) xs)).1))) dc93) En102 (by kernel_rfl) (by kernel_rfl) ?_
  rw [srv_y (f := (fun y : RU16 => y)) hn1 hx32]
  exact ⟨da92, dc93, rfl, Hv100.pk [0]⟩

end Go.Proofs.Ytofecellbfhnjaa
