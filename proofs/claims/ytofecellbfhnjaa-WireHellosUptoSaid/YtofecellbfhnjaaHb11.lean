import Derived.Test.YtofecellbfhnjaaHb9
import Derived.Test.YtofecellbfhnjaaHb6
import Derived.Test.YtofecellbfhnjaaHb10
/- Layer 17: messages with extensions are written by the document. -/


namespace Go.Proofs.Ytofecellbfhnjaa
open Go.Dbr
set_option maxRecDepth 100000
set_option maxHeartbeats 2000000
set_option linter.unusedVariables false
set_option linter.unusedSimpArgs false

def dexF (p : WS) (x : EX) : WS := (dput 2 0 65535 (p.1 ++ beN 2 x.1.toNat) x.2, p.2 || dbad 2 0 65535 x.2.length)
def wdexF (p : WS) (ps : List EX) : WS := (dput 2 0 16777215 p.1 (allM dexF ps).1, (p.2 || ((allM dexF ps).2 || dupA ps)) || dbad 2 0 16777215 (allM dexF ps).1.length)
theorem fold_le {β : Type} {F G : WS → β → WS} (h : ∀ p q x, p.1.length ≤ q.1.length → (F p x).1.length ≤ (G q x).1.length) : ∀ (ps : List β) (p q : WS), p.1.length ≤ q.1.length → (List.foldl F p ps).1.length ≤ (List.foldl G q ps).1.length
  | [], _, _, e => e
  | x :: r, p, q, e => fold_le h r (F p x) (G q x) (h p q x e)
theorem allM_le {β : Type} {F G : WS → β → WS} (h : ∀ p q x, p.1.length ≤ q.1.length → (F p x).1.length ≤ (G q x).1.length) (ps : List β) : (allM F ps).1.length ≤ (allM G ps).1.length := fold_le h ps _ _ (Nat.le_refl _)
theorem dexF_le (p q : WS) (x : EX) (h : p.1.length ≤ q.1.length) : (dexF p x).1.length ≤ (exF q x).1.length := by
  have h1 := dput_len 2 0 65535 (p.1 ++ beN 2 x.1.toNat) x.2
  rw [List.length_append, beN_len] at h1
  rw [exF, wput_len, List.length_append, beN_len]
  show List.length (dput 2 0 65535 (p.1 ++ beN 2 x.1.toNat) x.2) ≤ _
  omega
theorem dex_i {ps : List EX} (i : Nat) : (allM dexF (List.take i ps)).1.length ≤ (allM exF ps).1.length := Nat.le_trans (allM_le dexF_le _) (allM_mono exF_len _ i)
theorem dex_step {α : Type} {f : α → EX} {xs : List α} {i : Nat} {x : α} {m : Bs} {bd od : Bool} (hx : xs[i]? = some x) (hm : m = (allM dexF (List.take i (List.map f xs))).1) (hbd : bd = ((allM dexF (List.take i (List.map f xs))).2 || dupN (List.map f xs) i)) (hod : od = (bd || hasE (f x).1 (List.take i (List.map f xs)))) :
    dput 2 0 65535 (m ++ beN 2 (f x).1.toNat) (f x).2 = (allM dexF (List.take (i + 1) (List.map f xs))).1 ∧ (od || dbad 2 0 65535 (f x).2.length) = ((allM dexF (List.take (i + 1) (List.map f xs))).2 || dupN (List.map f xs) (i + 1)) := by
  have hp : (List.map f xs)[i]? = some (f x) := by rw [List.getElem?_map, hx]; rfl
  rw [allM_take hx, dup_s hp, hm, hod, hbd]
  refine ⟨rfl, ?_⟩
  show _ = (((allM dexF (List.take i (List.map f xs))).2 || dbad 2 0 65535 (f x).2.length) || _)
  cases (allM dexF (List.take i (List.map f xs))).2 <;> cases dupN (List.map f xs) i <;> cases hasE (f x).1 (List.take i (List.map f xs)) <;> cases dbad 2 0 65535 (f x).2.length <;> rfl

theorem dwexts_go (w : World) (bw : Nat) (a : Option Addr) (c : Nat) (l : Bs) (bad : Bool) (al : Option Addr) (cl : Nat) (xs : List RExt) (il : InS fExt 32 (fun y : RExt => (True ∧ (InB w [.box bw [.slice a (List.length l) c, .bool bad] 126, .vec a c 1 (bys l) 5] y.2.1.a y.2.1.c y.2.1.l ∧ (True)))) w [.box bw [.slice a (List.length l) c, .bool bad] 126, .vec a c 1 (bys l) 5] al cl xs) (hb : List.length l + 2 + List.length (allM exF (List.map (fun y : RExt => (y.1, y.2.1.l)) xs)).1 ≤ 140737489403904) (hH : Heap w [.box bw [.slice a (List.length l) c, .bool bad] 126, .vec a c 1 (bys l) 5]) : Calls Try.prog 181 #[pt bw, .slice al (List.length xs) cl] w fun e w' => ∃ a' c', e = .returned (.tuple #[]) ∧ Ev w [.box bw [.slice a (List.length l) c, .bool bad] 126, .vec a c 1 (bys l) 5] w' [.box bw [.slice a' (List.length ((wdexF (l, bad) (List.map (fun y : RExt => (y.1, y.2.1.l)) xs)).1)) c', .bool ((wdexF (l, bad) (List.map (fun y : RExt => (y.1, y.2.1.l)) xs)).2)] 126, .vec a' c' 1 (bys ((wdexF (l, bad) (List.map (fun y : RExt => (y.1, y.2.1.l)) xs)).1)) 5] := by
 refine d_0 [(0, pt bw), (1, .slice al (List.length xs) cl)] 58 Go.Proofs.Try.func181 Go.Proofs.Try.ntmps181 (hH) fun act0 En0 Hv0 => ?_
 refine wp_seq ?_
 refine region_from ?_
 refine d_k [0,1,7] [] 1 En0 fun ac1 En2 => ?_
 refine f_o ?_
 refine m_m 126 [.slice none 0 0, .bool false] En2 Hv0 fun ac4 wo5 bk3 En6 Hv7 => ?_
 refine d_e [0,1,4] [] En6 fun ac8 En9 => ?_
 refine then_normal ?_
 refine wp_seq ?_
 refine wp_seq ?_
 refine d_r [0,1,4,5] [] En9 fun ac10 En11 => ?_
 refine then_normal ?_
 refine wp_block ?_
 have Hv12 : Ev w [.box bw [.slice a (List.length l) c, .bool bad] 126, .vec a c 1 (bys l) 5] wo5 [.box bw [.slice a (List.length l) c, .bool bad] 126, .vec a c 1 (bys l) 5, .box bk3 [.slice none 0 0, .bool false] 126, .vec none 0 1 (bys []) 5] := Ev.nil (sz := 1) (T := 5) Hv7
 refine loop_m (fun ms13 ac wo => ∃ (i : Nat) (wa0 : Option Addr) (wc0 : Nat) (m0 : Bs) (bd0 : Bool), ms13 = (List.length xs + 1 - i : Nat) ∧ Env ac 58 [(0, pt bw), (1, .slice al (List.length xs) cl), (4, pt bk3), (5, ni i)] ∧ Ev w [.box bw [.slice a (List.length l) c, .bool bad] 126, .vec a c 1 (bys l) 5] wo [.box bk3 [.slice wa0 (List.length m0) wc0, .bool bd0] 126, .vec wa0 wc0 1 (bys m0) 5, .box bw [.slice a (List.length l) c, .bool bad] 126, .vec a c 1 (bys l) 5] ∧ (i ≤ List.length xs) ∧ (m0 = (allM dexF (List.take i (List.map (fun y : RExt => (y.1, y.2.1.l)) xs))).1) ∧ (bd0 = ((allM dexF (List.take i (List.map (fun y : RExt => (y.1, y.2.1.l)) xs))).2 || dupN (List.map (fun y : RExt => (y.1, y.2.1.l)) xs) i))) ⟨_, 0, none, 0, [], false, rfl, En11.sb, Hv12.pk [2, 3, 0, 1], (Nat.zero_le _), rfl, rfl⟩ ?_
 rintro mm19 ac15 wo16 ⟨i, wa0, wc0, m0, bd0, rfl, En17, Hv18, hil, hm0, hbd⟩
 refine wp_seq ?_
 refine wp_seq ?_
 have hzl := il.small
 refine d_r [0,1,4,5,12] [] En17 fun ac20 En21 => ?_
 refine then_normal ?_
 refine c_d (((i : Nat) : Int) < ((List.length xs : Nat) : Int)) En21 (fun hc22 => ?_) (fun hc22 => ?_)
 ·
  refine wp_skip ?_
  refine then_normal ?_
  refine wp_seq ?_
  refine wp_block ?_
  refine wp_seq ?_
  refine wp_seq ?_
  have hb23 : i < List.length xs := by omega
  obtain ⟨⟨x25a, ⟨a_x25b, c_x25b, x25b⟩, _⟩, hx24⟩ : ∃ x, (xs)[i]? = some x := ⟨_, List.getElem?_eq_getElem hb23⟩
  obtain ⟨_, i_x25b, _⟩ := il.each _ (List.mem_of_getElem? hx24)
  replace i_x25b : InB w [.box bw [.slice a (List.length l) c, .bool bad] 126, .vec a c 1 (bys l) 5] a_x25b c_x25b x25b := i_x25b
  have hml : List.length m0 ≤ List.length (allM exF (List.take i (List.map (fun y : RExt => (y.1, y.2.1.l)) xs))).1 := by rw [hm0]; exact allM_le dexF_le _
  have hnx := allM_mono exF_len (List.map (fun y : RExt => (y.1, y.2.1.l)) xs) (i + 1)
  rw [allM_take hx24] at hnx
  simp only [exF, wput_len, List.length_append, beN_len] at hnx
  have hds := i_x25b.small
  have hgl := UInt16.toNat_lt x25a
  refine d_r [0,1,4,5,6] [] En21 fun ac26 En27 => ?_
  refine then_normal ?_
  refine wp_block ?_
  refine loop_m (fun ms28 ac wo => ∃ (k : Nat) (od2 : Bool), ms28 = (i - k : Nat) ∧ Env ac 58 [(0, pt bw), (1, .slice al (List.length xs) cl), (4, pt bk3), (5, ni i), (6, ni k)] ∧ Ev w [.box bw [.slice a (List.length l) c, .bool bad] 126, .vec a c 1 (bys l) 5] wo [.box bk3 [.slice wa0 (List.length m0) wc0, .bool od2] 126, .vec wa0 wc0 1 (bys m0) 5, .box bw [.slice a (List.length l) c, .bool bad] 126, .vec a c 1 (bys l) 5] ∧ (k ≤ i) ∧ (od2 = (bd0 || hasE (x25a) (List.take k (List.map (fun y : RExt => (y.1, y.2.1.l)) xs))))) ⟨_, 0, bd0, rfl, En27.sb, Hv18.pk [0, 1, 2, 3], (Nat.zero_le _), (by rw [List.take_zero]; exact (Bool.or_false _).symm)⟩ ?_
  rintro mm34 ac30 wo31 ⟨k, od2, rfl, En32, Hv33, hkl, ho2⟩
  refine wp_seq ?_
  refine wp_seq ?_
  refine d_r [0,1,4,5,6,17] [] En32 fun ac35 En36 => ?_
  refine then_normal ?_
  refine c_d (((k : Nat) : Int) < ((i : Nat) : Int)) En36 (fun hc37 => ?_) (fun hc37 => ?_)
  ·
   refine wp_skip ?_
   refine then_normal ?_
   refine wp_seq ?_
   refine wp_block ?_
   have hb38 : k < List.length xs := by omega
   obtain ⟨⟨x40a, ⟨a_x40b, c_x40b, x40b⟩, _⟩, hx39⟩ : ∃ x, (xs)[k]? = some x := ⟨_, List.getElem?_eq_getElem hb38⟩
   obtain ⟨_, i_x40b, _⟩ := il.each _ (List.mem_of_getElem? hx39)
   replace i_x40b : InB w [.box bw [.slice a (List.length l) c, .bool bad] 126, .vec a c 1 (bys l) 5] a_x40b c_x40b x40b := i_x40b
   rcases Bool.eq_false_or_eq_true (od2) with hb41 | hb41
   ·
    have hb41p : od2 = true := hb41
    refine r_c (fun ac wo => Env ac 58 [(0, pt bw), (1, .slice al (List.length xs) cl), (4, pt bk3), (5, ni i), (6, ni k)] ∧ Ev w [.box bw [.slice a (List.length l) c, .bool bad] 126, .vec a c 1 (bys l) 5] wo [.box bk3 [.slice wa0 (List.length m0) wc0, .bool true] 126, .vec wa0 wc0 1 (bys m0) 5, .box bw [.slice a (List.length l) c, .bool bad] 126, .vec a c 1 (bys l) 5]) ?_ ?_
    ·
     refine draw_any (by kernel_rfl) 21 (by kernel_rfl) ?_
     have wo42 := Hv33.trans (Ev.drew Hv33.heap)
     refine q_a [0,1,2,3] [] 17 En36 fun ac57 En58 => ?_
     refine q_u 4 ?_
     refine m_l 0 En58 wo42 fun ac59 En60 => ?_
     refine q_a [5] [] 15 En60 fun ac61 En62 => ?_
     have En63 := En62.fx (t := 24) (congrArg Value.bool hb41)
     have En64 := En63.fx (t := 25) (congrArg Value.bool hb41)
     refine q_a [6,7,8,9,10,11,12,13,14,15,16,17,18,19] [] 1 En64 fun ac65 En66 => ?_
     refine q_u 20 ?_
     refine m_s 0 [.box bk3 [.slice wa0 (List.length m0) wc0, .bool true] 126, .vec wa0 wc0 1 (bys m0) 5, .box bw [.slice a (List.length l) c, .bool bad] 126, .vec a c 1 (bys l) 5] En66 wo42 fun ac67 wo68 En69 Hv70 => ?_
     exact a_e ⟨En69.sb, Hv70.pk [0, 1, 2, 3]⟩
    rintro ac71 wo72 ⟨En73, Hv74⟩
    refine block_normal ?_
    refine then_normal ?_
    refine d_r [0,1,4,5,6] [(1, g_n (w_a k 1))] En73 fun ac75 En76 => ?_
    refine then_normal ?_
    refine ⟨_, ⟨k + 1, true, rfl, En76.sb, Hv74.pk [0, 1, 2, 3], (by omega), (has_t (show (List.map (fun y : RExt => (y.1, y.2.1.l)) xs)[k]? = some ((fun y : RExt => (y.1, y.2.1.l)) (x40a, ⟨a_x40b, c_x40b, x40b⟩, ())) from by rw [List.getElem?_map, hx39]; rfl) ho2 hb41p)⟩, ?_⟩
    omega
   ·
    have hb41p : ¬ (od2 = true) := Bool.eq_false_iff.1 hb41
    refine r_c (fun ac wo => Env ac 58 [(0, pt bw), (1, .slice al (List.length xs) cl), (4, pt bk3), (5, ni i), (6, ni k)] ∧ Ev w [.box bw [.slice a (List.length l) c, .bool bad] 126, .vec a c 1 (bys l) 5] wo [.box bk3 [.slice wa0 (List.length m0) wc0, .bool (((UInt16.toNat x40a : Nat) : Int) == ((UInt16.toNat x25a : Nat) : Int))] 126, .vec wa0 wc0 1 (bys m0) 5, .box bw [.slice a (List.length l) c, .bool bad] 126, .vec a c 1 (bys l) 5]) ?_ ?_
    ·
     refine h_s (fun wv => Ev w [.box bw [.slice a (List.length l) c, .bool bad] 126, .vec a c 1 (bys l) 5] wv [.box bk3 [.slice wa0 (List.length m0) wc0, .bool od2] 126]) [20] 21 ?_
     have wo77 := Hv33.trans (Ev.drew Hv33.heap)
     refine q_s [0,1,2,3] [] 17 En36 (wo77.pk [0]) fun ac158 En159 => ?_
     refine q_l 0 4 En159 (wo77.pk [0]) fun ac160 En161 => ?_
     refine q_s [5] [] 15 En161 (wo77.pk [0]) fun ac162 En163 => ?_
     have En164 := En163.fx (t := 24) (congrArg Value.bool hb41)
     have En165 := En164.fx (t := 25) (congrArg Value.bool hb41)
     have hb168 : k < List.length xs := (by omega)
     obtain ⟨adr166, had167⟩ := some_of il.nz hb168
     refine q_s [6,7] [] 13 En165 (wo77.pk [0]) fun ac169 En170 => ?_
     refine q_f 8 (s := Instr.indexAt 36 (.slice al (List.length xs) cl) (ni k)) (v := .pointer (some (Addr.add adr166 (k * 2)))) En170 (fun _ => Go.Dbr.run_indexsl (e := 147) (sz := 2) (j := k) (jo := k * 2) had167 (by kernel_rfl) (by kernel_rfl) (by omega) hb168 rfl _) (fun _ => wo77.pk [0]) fun ac171 En172 => ?_
     refine q_s [9] [] 11 En172 (wo77.pk [0]) fun ac173 En174 => ?_
     refine q_r 10 (s := Instr.loadAt 37 (.pointer (some (Addr.add adr166 (k * 2))))) (v := uv16 x40a) En174 (fun w hS => run_loadel (ad := adr166) (o := k * 2) rfl (il.ro.ev hS).reads had167 ((flat_get (sz := 2) (j := 0) (fun _ _ => rfl) hx39 (by decide)).trans rfl) (by kernel_rfl)) (wo77.pk [0]) fun ac175 En176 => ?_
     have hb179 : i < List.length xs := (by omega)
     obtain ⟨adr177, had178⟩ := some_of il.nz hb179
     refine q_s [11,12] [] 8 En176 (wo77.pk [0]) fun ac180 En181 => ?_
     refine q_f 13 (s := Instr.indexAt 36 (.slice al (List.length xs) cl) (ni i)) (v := .pointer (some (Addr.add adr177 (i * 2)))) En181 (fun _ => Go.Dbr.run_indexsl (e := 147) (sz := 2) (j := i) (jo := i * 2) had178 (by kernel_rfl) (by kernel_rfl) (by omega) hb179 rfl _) (fun _ => wo77.pk [0]) fun ac182 En183 => ?_
     refine q_s [14] [] 6 En183 (wo77.pk [0]) fun ac184 En185 => ?_
     refine q_r 15 (s := Instr.loadAt 37 (.pointer (some (Addr.add adr177 (i * 2))))) (v := uv16 x25a) En185 (fun w hS => run_loadel (ad := adr177) (o := i * 2) rfl (il.ro.ev hS).reads had178 ((flat_get (sz := 2) (j := 0) (fun _ _ => rfl) hx24 (by decide)).trans rfl) (by kernel_rfl)) (wo77.pk [0]) fun ac186 En187 => ?_
     refine q_s [16,17,18,19] [] 1 En187 (wo77.pk [0]) fun ac188 En189 => ?_
     refine q_t 20 ?_
     refine m_s 0 [.box bk3 [.slice wa0 (List.length m0) wc0, .bool (((UInt16.toNat x40a : Nat) : Int) == ((UInt16.toNat x25a : Nat) : Int))] 126, .vec wa0 wc0 1 (bys m0) 5, .box bw [.slice a (List.length l) c, .bool bad] 126, .vec a c 1 (bys l) 5] En189 wo77 fun ac190 wo191 En192 Hv193 => ?_
     refine ⟨q_y, ?_⟩
     exact h_e ⟨En192.sb, Hv193.pk [0, 1, 2, 3]⟩
    rintro ac194 wo195 ⟨En196, Hv197⟩
    refine block_normal ?_
    refine then_normal ?_
    refine d_r [0,1,4,5,6] [(1, g_n (w_a k 1))] En196 fun ac198 En199 => ?_
    refine then_normal ?_
    refine ⟨_, ⟨k + 1, (((UInt16.toNat x40a : Nat) : Int) == ((UInt16.toNat x25a : Nat) : Int)), rfl, En199.sb, Hv197.pk [0, 1, 2, 3], (by omega), (has_f (show (List.map (fun y : RExt => (y.1, y.2.1.l)) xs)[k]? = some ((fun y : RExt => (y.1, y.2.1.l)) (x40a, ⟨a_x40b, c_x40b, x40b⟩, ())) from by rw [List.getElem?_map, hx39]; rfl) ho2 hb41p)⟩, ?_⟩
    omega
  ·
   refine wp_exit ?_
   refine then_exit ?_
   refine then_exit ?_
   refine block_exit ?_
   refine then_normal ?_
   refine wp_seq ?_
   have hki : k = i := by omega
   rw [hki] at ho2
   have hb202 : i < List.length xs := (by omega)
   obtain ⟨adr200, had201⟩ := some_of il.nz hb202
   refine region_from ?_
   refine d_k [0,1,4,5,6,40,41,42] [] 3 En36 fun ac203 En204 => ?_
   refine f_o ?_
   refine q_v (x := Instr.indexAt 36 (.slice al (List.length xs) cl) (ni i)) (v := .pointer (some (Addr.add adr200 (i * 2)))) En204 (Go.Dbr.run_indexsl (e := 147) (sz := 2) (j := i) (jo := i * 2) had201 (by kernel_rfl) (by kernel_rfl) (by omega) hb202 rfl _) fun ac205 En206 => ?_
   refine d_k [0,1,4,5,6,40,44] [] 5 En206 fun ac207 En208 => ?_
   refine f_o ?_
   refine op_loadf (d := some 45) (t := 37) (ad := adr200) (ao := al) (ys := List.flatMap fExt xs) (o := i * 2) (v := uv16 x25a) En208 (by kernel_rfl) rfl (il.ro.ev Hv33).reads had201 ((flat_get (sz := 2) (j := 0) (fun _ _ => rfl) hx24 (by decide)).trans rfl) (by kernel_rfl) ?_
   intro ac209 En210
   refine d_k [0,1,4,5,6,40,46] [(6, g_i .i64 (Go.Dbr.u16_to_i64 (x := x25a) rfl))] 7 En210 fun ac211 En212 => ?_
   refine f_o ?_
   refine c_l [0,1] (M := [.box bk3 [.slice wa0 (List.length m0) wc0, .bool od2] 126, .vec wa0 wc0 1 (bys m0) 5]) En212 Hv33 (fun hM215 => dwnum_go _ bk3 wa0 wc0 m0 od2 2 (by omega) (UInt16.toNat x25a) (by omega) (by first | omega | (simp only [u16F, beN_len, List.length_nil, List.length_append]; omega) | (simp only [wput_len, beN_len, List.length_nil, List.length_append]; omega) | (simp [wput_len, beN_len]; done) | (simp [wput_len, beN_len]; omega)) hM215) ?_
   rintro _ wo216 ⟨wa213, wc214, rfl, he217⟩
   refine ⟨_, _, [.box bk3 [.slice wa213 (List.length (m0 ++ beN 2 (UInt16.toNat x25a))) wc214, .bool od2] 126, .vec wa213 wc214 1 (bys (m0 ++ beN 2 (UInt16.toNat x25a))) 5, .box bw [.slice a (List.length l) c, .bool bad] 126, .vec a c 1 (bys l) 5], rfl, he217, by kernel_rfl, fun ac219 En220 Hv221 => ?_⟩
   refine f_e ?_
   refine then_normal ?_
   have hb224 : i < List.length xs := (by omega)
   obtain ⟨adr222, had223⟩ := some_of il.nz hb224
   refine region_from ?_
   refine d_k [0,1,4,5,6,48,49,50] [] 3 En220 fun ac225 En226 => ?_
   refine f_o ?_
   refine q_v (x := Instr.indexAt 36 (.slice al (List.length xs) cl) (ni i)) (v := .pointer (some (Addr.add adr222 (i * 2)))) En226 (Go.Dbr.run_indexsl (e := 147) (sz := 2) (j := i) (jo := i * 2) had223 (by kernel_rfl) (by kernel_rfl) (by omega) hb224 rfl _) fun ac227 En228 => ?_
   refine d_k [0,1,4,5,6,48,52] [] 5 En228 fun ac229 En230 => ?_
   refine f_o ?_
   refine op_loadf (d := some 53) (t := 23) (ad := adr222) (ao := al) (ys := List.flatMap fExt xs) (o := i * 2 + 1) (v := .slice a_x25b (List.length x25b) c_x25b) En230 (by kernel_rfl) (Deep.add_add _ _ _) (il.ro.ev Hv221).reads had223 ((flat_get (sz := 2) (j := 1) (fun _ _ => rfl) hx24 (by decide)).trans rfl) (by kernel_rfl) ?_
   intro ac231 En232
   refine f_o ?_
   refine c_l [0,1] (M := [.box bk3 [.slice wa213 (List.length (m0 ++ beN 2 (UInt16.toNat x25a))) wc214, .bool od2] 126, .vec wa213 wc214 1 (bys (m0 ++ beN 2 (UInt16.toNat x25a))) 5]) En232 Hv221 (fun hM235 => dwlist_go _ bk3 wa213 wc214 (m0 ++ beN 2 (UInt16.toNat x25a)) od2 2 (by omega) 0 65535 (by omega) (by omega) a_x25b c_x25b x25b ((i_x25b.ev Hv221).pick [0, 1] (by kernel_rfl)) (by first | omega | (simp only [u16F, beN_len, List.length_nil, List.length_append]; omega) | (simp only [wput_len, beN_len, List.length_nil, List.length_append]; omega) | (simp [wput_len, beN_len]; done) | (simp [wput_len, beN_len]; omega)) hM235) ?_
   rintro _ wo236 ⟨wa233, wc234, rfl, he237⟩
   refine ⟨_, _, [.box bk3 [.slice wa233 (List.length (dput 2 0 65535 (m0 ++ beN 2 (UInt16.toNat x25a)) x25b)) wc234, .bool (od2 || dbad 2 0 65535 (List.length x25b))] 126, .vec wa233 wc234 1 (bys (dput 2 0 65535 (m0 ++ beN 2 (UInt16.toNat x25a)) x25b)) 5, .box bw [.slice a (List.length l) c, .bool bad] 126, .vec a c 1 (bys l) 5], rfl, he237, by kernel_rfl, fun ac239 En240 Hv241 => ?_⟩
   refine f_e ?_
   refine block_normal ?_
   refine then_normal ?_
   refine d_r [0,1,4,5,6] [(1, g_n (w_a i 1))] En240 fun ac242 En243 => ?_
   refine then_normal ?_
   refine ⟨_, ⟨i + 1, wa233, wc234, (dput 2 0 65535 (m0 ++ beN 2 (UInt16.toNat x25a)) x25b), (od2 || dbad 2 0 65535 (List.length x25b)), rfl, En243.sb, Hv241.pk [0, 1, 2, 3], (by omega), (dex_step (f := (fun y : RExt => (y.1, y.2.1.l))) hx24 hm0 hbd ho2).1, (dex_step (f := (fun y : RExt => (y.1, y.2.1.l))) hx24 hm0 hbd ho2).2⟩, ?_⟩
   omega
 ·
  refine wp_exit ?_
  refine then_exit ?_
  refine then_exit ?_
  refine block_exit ?_
  refine then_normal ?_
  have hdl := dex_i (ps := (List.map (fun y : RExt => (y.1, y.2.1.l)) xs)) i
  rw [List.take_of_length_le (by rw [List.length_map]; omega)] at hm0 hbd hdl
  have hie : i = List.length (List.map (fun y : RExt => (y.1, y.2.1.l)) xs) := by rw [List.length_map]; omega
  rw [hie] at hbd
  subst hm0
  have hbd : bd0 = ((allM dexF (List.map (fun y : RExt => (y.1, y.2.1.l)) xs)).2 || dupA (List.map (fun y : RExt => (y.1, y.2.1.l)) xs)) := hbd
  subst hbd
  refine region_from ?_
  refine d_k [1,4,5,55,56] [] 2 En21 fun ac244 En245 => ?_
  refine f_o ?_
  refine c_l [2,3,0,1] (M := [.box bw [.slice a (List.length l) c, .bool bad] 126, .vec a c 1 (bys l) 5, .box bk3 [.slice wa0 (List.length ((allM dexF (List.map (fun y : RExt => (y.1, y.2.1.l)) xs)).1)) wc0, .bool ((allM dexF (List.map (fun y : RExt => (y.1, y.2.1.l)) xs)).2 || dupA (List.map (fun y : RExt => (y.1, y.2.1.l)) xs))] 126, .vec wa0 wc0 1 (bys ((allM dexF (List.map (fun y : RExt => (y.1, y.2.1.l)) xs)).1)) 5]) En245 Hv18 (fun hM248 => dpartw_go _ bw a c l bad bk3 wa0 wc0 ((allM dexF (List.map (fun y : RExt => (y.1, y.2.1.l)) xs)).1) ((allM dexF (List.map (fun y : RExt => (y.1, y.2.1.l)) xs)).2 || dupA (List.map (fun y : RExt => (y.1, y.2.1.l)) xs)) 2 (by omega) 0 (by omega) (by first | omega | (simp only [u16F, beN_len, List.length_nil, List.length_append]; omega) | (simp only [wput_len, beN_len, List.length_nil, List.length_append]; omega) | (simp [wput_len, beN_len]; done) | (simp [wput_len, beN_len]; omega)) hM248) ?_
  rintro _ wo249 ⟨wa246, wc247, rfl, he250⟩
  refine ⟨_, _, [.box bw [.slice wa246 (List.length (dput 2 0 16777215 l ((allM dexF (List.map (fun y : RExt => (y.1, y.2.1.l)) xs)).1))) wc247, .bool ((bad || ((allM dexF (List.map (fun y : RExt => (y.1, y.2.1.l)) xs)).2 || dupA (List.map (fun y : RExt => (y.1, y.2.1.l)) xs))) || dbad 2 0 16777215 (List.length ((allM dexF (List.map (fun y : RExt => (y.1, y.2.1.l)) xs)).1)))] 126, .vec wa246 wc247 1 (bys (dput 2 0 16777215 l ((allM dexF (List.map (fun y : RExt => (y.1, y.2.1.l)) xs)).1))) 5, .box bk3 [.slice wa0 (List.length ((allM dexF (List.map (fun y : RExt => (y.1, y.2.1.l)) xs)).1)) wc0, .bool ((allM dexF (List.map (fun y : RExt => (y.1, y.2.1.l)) xs)).2 || dupA (List.map (fun y : RExt => (y.1, y.2.1.l)) xs))] 126, .vec wa0 wc0 1 (bys ((allM dexF (List.map (fun y : RExt => (y.1, y.2.1.l)) xs)).1)) 5], rfl, he250, by kernel_rfl, fun ac252 En253 Hv254 => ?_⟩
  refine f_e ?_
  refine d_end0 En253 (by kernel_rfl) ?_
  exact ⟨wa246, wc247, rfl, Hv254.pk [0, 1]⟩

end Go.Proofs.Ytofecellbfhnjaa

/- Layer 17: greetings are written by the document. -/



namespace Go.Proofs.Ytofecellbfhnjaa
open Go.Dbr
set_option maxRecDepth 100000
set_option maxHeartbeats 2000000
set_option linter.unusedVariables false
set_option linter.unusedSimpArgs false

def dbegF (v : UInt16) (ar b : Bs) : WS := (dput 1 0 32 (beN 2 v.toNat ++ ar) b, false || dbad 1 0 32 b.length)
def dnmF (p : WS) (ns : List UInt16) : WS := (dput 2 2 16777215 p.1 (allM u16F ns).1, (p.2 || (allM u16F ns).2) || dbad 2 2 16777215 (allM u16F ns).1.length)
def dcliF (x : HL) : WS := wdexF ((dnmF (dbegF x.1 x.2.1 x.2.2.1) x.2.2.2.1).1 ++ [1, 0], (dnmF (dbegF x.1 x.2.1 x.2.2.1) x.2.2.2.1).2 || dlq x.2.2.2.2) x.2.2.2.2
def dcliP (x : HL) : Bs := doneL (dcliF x).2 (dcliF x).1
def dsrvF (x : HL) (n : UInt16) : WS := wdexF (((dbegF x.1 x.2.1 x.2.2.1).1 ++ beN 2 n.toNat) ++ [0], (dbegF x.1 x.2.1 x.2.2.1).2) x.2.2.2.2
def dsrvP (x : HL) : Bs := match x.2.2.2.1 with
  | [n] => doneL (dsrvF x n).2 (dsrvF x n).1
  | _ => []
theorem dsrv_n {x : HL} (h : ¬ x.2.2.2.1.length = 1) : dsrvP x = [] := by
  rw [dsrvP]
  split
  · rename_i e; rw [e] at h; exact absurd rfl h
  · rfl
theorem dsrv_y {α : Type} {f : α → UInt16} {ns : List α} {v : UInt16} {ar b : Bs} {es : List EX} {y : α} (h : ns.length = 1) (hx : ns[0]? = some y) : dsrvP (v, ar, b, List.map f ns, es) = doneL (dsrvF (v, ar, b, List.map f ns, es) (f y)).2 (dsrvF (v, ar, b, List.map f ns, es) (f y)).1 := by
  match ns, h with
  | [z], _ =>
    have e : z = y := by simpa using hx
    subst e
    rfl

theorem dpclient_go (w : World) (vv : UInt16) (ar : Bs) (har : List.length ar = 32) (ab : Option Addr) (cb : Nat) (b : Bs) (an : Option Addr) (cn : Nat) (ns : List RU16) (al : Option Addr) (cl : Nat) (xs : List RExt) (ib : InB w [] ab cb b) (iln : InS fU16 2 (fun y : RU16 => True) w [] an cn ns) (il : InS fExt 32 (fun y : RExt => (True ∧ (InB w [] y.2.1.a y.2.1.c y.2.1.l ∧ (True)))) w [] al cl xs) (hq0 : List.length (allM exF (List.map (fun y : RExt => (y.1, y.2.1.l)) xs)).1 ≤ 16777216) (hqn : allB u16F (List.map (fun y : RU16 => y) ns)) (hbt : List.length b ≤ 16777216) : Calls Try.prog 73 #[.agg (List.toArray (([uv16 vv] : List Value) ++ ((bys ar) ++ ([.slice ab (List.length b) cb, .slice an (List.length ns) cn, .slice al (List.length xs) cl] : List Value))))] w fun e w' => ∃ a' c', e = .returned (.slice a' (List.length (dcliP (vv, ar, b, (List.map (fun y : RU16 => y) ns), (List.map (fun y : RExt => (y.1, y.2.1.l)) xs)))) c') ∧ Ev w [] w' [.vec a' c' 1 (bys (dcliP (vv, ar, b, (List.map (fun y : RU16 => y) ns), (List.map (fun y : RExt => (y.1, y.2.1.l)) xs)))) 5] := by
 have hbs := ib.small
 have hza := allB_all hqn
 have hzl := il.small
 have hgv := UInt16.toNat_lt vv
 have hl0 : List.length ([] ++ beN 2 (UInt16.toNat vv)) = 2 := by rw [List.nil_append, beN_len]
 have hl1 : List.length (([] ++ beN 2 (UInt16.toNat vv)) ++ ar) = 34 := by rw [List.length_append, hl0, har]
 have hd1 := dput_len 1 0 32 (([] ++ beN 2 (UInt16.toNat vv)) ++ ar) b
 rw [hl1] at hd1
 refine d_0 [(0, .agg (List.toArray (([uv16 vv] : List Value) ++ ((bys ar) ++ ([.slice ab (List.length b) cb, .slice an (List.length ns) cn, .slice al (List.length xs) cl] : List Value)))))] 87 Go.Proofs.Try.func73 Go.Proofs.Try.ntmps73 (Heap.nil _) fun act0 En0 Hv0 => ?_
 refine wp_seq ?_
 refine region_from ?_
 refine f_o ?_
 refine m_m 75 (([uv16 vv] : List Value) ++ ((bys ar) ++ ([.slice ab (List.length b) cb, .slice an (List.length ns) cn, .slice al (List.length xs) cl] : List Value))) En0 Hv0 fun ac2 wo3 bk1 En4 Hv5 => ?_
 refine d_e [1,2] [] En4 fun ac6 En7 => ?_
 refine then_normal ?_
 refine wp_seq ?_
 refine region_from ?_
 refine d_k [1,2,7] [] 1 En7 fun ac8 En9 => ?_
 refine f_o ?_
 refine m_m 126 [.slice none 0 0, .bool false] En9 Hv5 fun ac11 wo12 bk10 En13 Hv14 => ?_
 refine d_e [1,2,3] [] En13 fun ac15 En16 => ?_
 refine then_normal ?_
 refine wp_seq ?_
 refine region_from ?_
 refine d_k [1,2,3,9,10] [] 2 En16 fun ac17 En18 => ?_
 refine f_o ?_
 refine m_v 0 0 (uv16 vv) En18 Hv14 rfl (seg_in rfl) fun ac19 En20 => ?_
 refine d_k [1,2,3,9,12] [(3, g_i .i64 (Go.Dbr.u16_to_i64 (x := vv) rfl))] 4 En20 fun ac21 En22 => ?_
 refine f_o ?_
 have Hv23 : Ev w [] wo12 [.box bk1 (([uv16 vv] : List Value) ++ ((bys ar) ++ ([.slice ab (List.length b) cb, .slice an (List.length ns) cn, .slice al (List.length xs) cl] : List Value))) 75, .box bk10 [.slice none 0 0, .bool false] 126, .vec none 0 1 (bys []) 5] := Ev.nil (sz := 1) (T := 5) Hv14
 refine c_l [1,2] (M := [.box bk10 [.slice none 0 0, .bool false] 126, .vec none 0 1 (bys []) 5]) En22 Hv23 (fun hM26 => dwnum_go _ bk10 none 0 [] false 2 (by omega) (UInt16.toNat vv) (by omega) (by first | omega | (simp only [List.length_nil, List.length_append, beN_len]; omega) | (simp only [u16F, beN_len, List.length_nil, List.length_append]; omega) | (simp only [wput_len, beN_len, List.length_nil, List.length_append]; omega) | (simp [wput_len, beN_len]; done) | (simp [wput_len, beN_len]; omega)) hM26) ?_
 rintro _ wo27 ⟨wa24, wc25, rfl, he28⟩
 refine ⟨_, _, [.box bk10 [.slice wa24 (List.length ([] ++ beN 2 (UInt16.toNat vv))) wc25, .bool false] 126, .vec wa24 wc25 1 (bys ([] ++ beN 2 (UInt16.toNat vv))) 5, .box bk1 (([uv16 vv] : List Value) ++ ((bys ar) ++ ([.slice ab (List.length b) cb, .slice an (List.length ns) cn, .slice al (List.length xs) cl] : List Value))) 75], rfl, he28, by kernel_rfl, fun ac30 En31 Hv32 => ?_⟩
 refine f_e ?_
 refine then_normal ?_
 refine wp_seq ?_
 refine r_c (fun ac wo => ∃ (ao80 : Option Addr) (cp81 : Nat), Env ac 87 [(1, pt bk1), (2, .slice none 0 0), (3, pt bk10)] ∧ Ev w [] wo [.box bk10 [.slice ao80 (List.length (([] ++ beN 2 (UInt16.toNat vv)) ++ ar)) cp81, .bool false] 126, .vec ao80 cp81 1 (bys (([] ++ beN 2 (UInt16.toNat vv)) ++ ar)) 5, .box bk1 (([uv16 vv] : List Value) ++ ((bys ar) ++ ([.slice ab (List.length b) cb, .slice an (List.length ns) cn, .slice al (List.length xs) cl] : List Value))) 75]) ?_ ?_
 ·
  refine h_s (fun wv => Ev w [] wv [.box bk10 [.slice wa24 (List.length ([] ++ beN 2 (UInt16.toNat vv))) wc25, .bool false] 126, .box bk1 (([uv16 vv] : List Value) ++ ((bys ar) ++ ([.slice ab (List.length b) cb, .slice an (List.length ns) cn, .slice al (List.length xs) cl] : List Value))) 75]) [10] 11 ?_
  have wo33 := Hv32.trans (Ev.drew Hv32.heap)
  refine q_s [0,1,2,3] [] 7 En31 (wo33.pk [0, 2]) fun ac94 En95 => ?_
  refine q_l 0 4 En95 (wo33.pk [0, 2]) fun ac96 En97 => ?_
  refine q_s [5] [] 5 En97 (wo33.pk [0, 2]) fun ac98 En99 => ?_
  refine q_t 6 ?_
  refine op_slicearr (d := some 20) (t := 29) (e := 5) (sz := 1) (m := 32) (lo := 0) (hi := 32) (b := bk1) (off := 1) (lov := none) (hiv := none) (o := 1) En99 (by kernel_rfl) (by kernel_rfl) (by kernel_rfl) (by omega) (by omega) (by omega) (.inl ⟨rfl, rfl⟩) (.inl ⟨rfl, rfl⟩) (by omega) ?_
  intro ac100 En101
  refine ⟨fun _ => wo33.pk [0, 2], ?_⟩
  refine q_t 7 ?_
  refine op_append (d := some 21) (t := 23) (tx := 23) (ty := 23) (k := 1) (p := List.length ([] ++ beN 2 (UInt16.toNat vv))) (m := 32) (x := .slice (some ⟨bk1, 1, none⟩) 32 32) (bytes := 1) En101 (by kernel_rfl) wo33 rfl (bys_len _) (Reads.src (size := 1) (tx := 23) (e' := 5) (by kernel_rfl) (wo33.heap.readsBox (k := 2) (m := 32) (xs := bys ar) rfl (by simp [bys_lenh har, List.drop_append, List.take_append])) (bys_lenn (by first | (rw [har]) | (simp [har]; done) | (simp [har]; omega))) (fun e => by cases e) (bys_one _)) (by kernel_rfl) (z := .int .u8 0) (by kernel_rfl) rfl (by decide) (by first | omega | (simp [beN_len]; done) | (simp [beN_len]; omega)) (by unfold maxLen; first | omega | (simp [beN_len]; done) | (simp [beN_len]; omega)) ?_
  intro ac106 wo107 ao102 cp103 En108 Hv109 hnz _
  clear hnz
  rw [← bys_append] at Hv109
  have ehz104 : (List.length ([] ++ beN 2 (UInt16.toNat vv))) + 32 = List.length (([] ++ beN 2 (UInt16.toNat vv)) ++ ar) := (by first | (simp; done) | (simp; omega) | omega)
  rw [ehz104] at En108
  refine ⟨fun _ => Hv109.pk [0, 2], ?_⟩
  refine q_s [8,9] [] 1 En108 (Hv109.pk [0, 2]) fun ac110 En111 => ?_
  refine q_t 10 ?_
  refine m_s 0 [.box bk10 [.slice ao102 (List.length (([] ++ beN 2 (UInt16.toNat vv)) ++ ar)) cp103, .bool false] 126, .vec ao102 cp103 1 (bys (([] ++ beN 2 (UInt16.toNat vv)) ++ ar)) 5, .box bk1 (([uv16 vv] : List Value) ++ ((bys ar) ++ ([.slice ab (List.length b) cb, .slice an (List.length ns) cn, .slice al (List.length xs) cl] : List Value))) 75] En111 Hv109 fun ac112 wo113 En114 Hv115 => ?_
  refine ⟨q_y, ?_⟩
  exact h_e ⟨ao102, cp103, En114.sb, Hv115.pk [0, 1, 2]⟩
 rintro ac116 wo117 ⟨ao80, cp81, En118, Hv119⟩
 refine then_normal ?_
 refine wp_seq ?_
 refine region_from ?_
 refine d_k [1,2,3,24,25] [] 2 En118 fun ac120 En121 => ?_
 refine f_o ?_
 refine m_v 2 33 (.slice ab (List.length b) cb) En121 Hv119 rfl (seg_skip (n := 1) (j := 32) rfl (seg_skip (n := 32) (j := 0) (bys_lenh har) rfl)) fun ac122 En123 => ?_
 refine f_o ?_
 refine c_l [0,1] (M := [.box bk10 [.slice ao80 (List.length (([] ++ beN 2 (UInt16.toNat vv)) ++ ar)) cp81, .bool false] 126, .vec ao80 cp81 1 (bys (([] ++ beN 2 (UInt16.toNat vv)) ++ ar)) 5]) En123 Hv119 (fun hM126 => dwlist_go _ bk10 ao80 cp81 (([] ++ beN 2 (UInt16.toNat vv)) ++ ar) false 1 (by omega) 0 32 (by omega) (by omega) ab cb b ((ib.ev Hv119).pick [0, 1] (by kernel_rfl)) (by first | omega | (simp only [List.length_nil, List.length_append, beN_len]; omega) | (simp only [u16F, beN_len, List.length_nil, List.length_append]; omega) | (simp only [wput_len, beN_len, List.length_nil, List.length_append]; omega) | (simp [wput_len, beN_len]; done) | (simp [wput_len, beN_len]; omega)) hM126) ?_
 rintro _ wo127 ⟨wa124, wc125, rfl, he128⟩
 refine ⟨_, _, [.box bk10 [.slice wa124 (List.length (dput 1 0 32 (([] ++ beN 2 (UInt16.toNat vv)) ++ ar) b)) wc125, .bool (false || dbad 1 0 32 (List.length b))] 126, .vec wa124 wc125 1 (bys (dput 1 0 32 (([] ++ beN 2 (UInt16.toNat vv)) ++ ar) b)) 5, .box bk1 (([uv16 vv] : List Value) ++ ((bys ar) ++ ([.slice ab (List.length b) cb, .slice an (List.length ns) cn, .slice al (List.length xs) cl] : List Value))) 75], rfl, he128, by kernel_rfl, fun ac130 En131 Hv132 => ?_⟩
 refine f_e ?_
 refine then_normal ?_
 refine wp_seq ?_
 refine region_from ?_
 refine d_k [1,2,3,28] [] 1 En131 fun ac133 En134 => ?_
 refine f_o ?_
 refine m_m 126 [.slice none 0 0, .bool false] En134 Hv132 fun ac136 wo137 bk135 En138 Hv139 => ?_
 refine d_e [1,2,3,4] [] En138 fun ac140 En141 => ?_
 refine then_normal ?_
 refine wp_seq ?_
 refine wp_seq ?_
 refine d_r [1,2,3,4,5] [] En141 fun ac142 En143 => ?_
 refine then_normal ?_
 refine wp_block ?_
 have Hv144 : Ev w [] wo137 [.box bk10 [.slice wa124 (List.length (dput 1 0 32 (([] ++ beN 2 (UInt16.toNat vv)) ++ ar) b)) wc125, .bool (false || dbad 1 0 32 (List.length b))] 126, .vec wa124 wc125 1 (bys (dput 1 0 32 (([] ++ beN 2 (UInt16.toNat vv)) ++ ar) b)) 5, .box bk1 (([uv16 vv] : List Value) ++ ((bys ar) ++ ([.slice ab (List.length b) cb, .slice an (List.length ns) cn, .slice al (List.length xs) cl] : List Value))) 75, .box bk135 [.slice none 0 0, .bool false] 126, .vec none 0 1 (bys []) 5] := Ev.nil (sz := 1) (T := 5) Hv139
 refine loop_m (fun ms145 ac wo => ∃ (i : Nat) (wa0 : Option Addr) (wc0 : Nat) (m0 : Bs) (bd0 : Bool), ms145 = (List.length ns + 1 - i : Nat) ∧ Env ac 87 [(1, pt bk1), (2, .slice none 0 0), (3, pt bk10), (4, pt bk135), (5, ni i)] ∧ Ev w [] wo [.box bk135 [.slice wa0 (List.length m0) wc0, .bool bd0] 126, .vec wa0 wc0 1 (bys m0) 5, .box bk10 [.slice wa124 (List.length (dput 1 0 32 (([] ++ beN 2 (UInt16.toNat vv)) ++ ar) b)) wc125, .bool (false || dbad 1 0 32 (List.length b))] 126, .vec wa124 wc125 1 (bys (dput 1 0 32 (([] ++ beN 2 (UInt16.toNat vv)) ++ ar) b)) 5, .box bk1 (([uv16 vv] : List Value) ++ ((bys ar) ++ ([.slice ab (List.length b) cb, .slice an (List.length ns) cn, .slice al (List.length xs) cl] : List Value))) 75] ∧ ((m0, bd0) = allM u16F (List.take i (List.map (fun y : RU16 => y) ns)))) ⟨_, 0, none, 0, [], false, rfl, En143.sb, Hv144.pk [3, 4, 0, 1, 2], rfl⟩ ?_
 rintro mm151 ac147 wo148 ⟨i, wa0, wc0, m0, bd0, rfl, En149, Hv150, hfo⟩
 refine wp_seq ?_
 refine wp_seq ?_
 have hnl := iln.small
 refine region_from ?_
 refine d_k [1,2,3,4,5,30,31] [] 2 En149 fun ac152 En153 => ?_
 refine f_o ?_
 refine m_v 4 34 (.slice an (List.length ns) cn) En153 Hv150 rfl (seg_skip (n := 1) (j := 33) rfl (seg_skip (n := 32) (j := 1) (bys_lenh har) rfl)) fun ac154 En155 => ?_
 refine d_e [1,2,3,4,5,34] [] En155 fun ac156 En157 => ?_
 refine then_normal ?_
 refine c_d (((i : Nat) : Int) < ((List.length ns : Nat) : Int)) En157 (fun hc158 => ?_) (fun hc158 => ?_)
 ·
  refine wp_skip ?_
  refine then_normal ?_
  refine wp_seq ?_
  refine wp_block ?_
  have hb159 : i < List.length ns := by omega
  obtain ⟨x161, hx160⟩ : ∃ x, (ns)[i]? = some x := ⟨_, List.getElem?_eq_getElem hb159⟩
  obtain _ := iln.each _ (List.mem_of_getElem? hx160)
  have hn0 := hqn (i + 1)
  rw [allM_take hx160, ← hfo] at hn0
  simp only [u16F, List.length_append, beN_len] at hn0
  have hgl := UInt16.toNat_lt x161
  refine region_from ?_
  refine d_k [1,2,3,4,5,37,38] [] 2 En157 fun ac162 En163 => ?_
  refine f_o ?_
  refine m_v 4 34 (.slice an (List.length ns) cn) En163 Hv150 rfl (seg_skip (n := 1) (j := 33) rfl (seg_skip (n := 32) (j := 1) (bys_lenh har) rfl)) fun ac164 En165 => ?_
  have hb168 : i < List.length ns := (by omega)
  obtain ⟨adr166, had167⟩ := some_of iln.nz hb168
  refine d_k [1,2,3,4,5,37,39,40] [] 4 En165 fun ac169 En170 => ?_
  refine f_o ?_
  refine q_v (x := Instr.indexAt 32 (.slice an (List.length ns) cn) (ni i)) (v := .pointer (some (Addr.add adr166 i))) En170 (Go.Dbr.run_indexsl (e := 37) (sz := 1) (j := i) (jo := i) had167 (by kernel_rfl) (by kernel_rfl) (by omega) hb168 (Nat.mul_one _) _) fun ac171 En172 => ?_
  refine f_o ?_
  refine op_loadf (d := some 42) (t := 37) (ad := adr166) (ao := an) (ys := List.flatMap fU16 ns) (o := i) (v := uv16 x161) En172 (by kernel_rfl) rfl (iln.ro.ev Hv150).reads had167 ((flat_get1 (fun _ _ => rfl) hx160).trans rfl) (by kernel_rfl) ?_
  intro ac173 En174
  refine d_k [1,2,3,4,5,37,43] [(6, g_i .i64 (Go.Dbr.u16_to_i64 (x := x161) rfl))] 7 En174 fun ac175 En176 => ?_
  refine f_o ?_
  refine c_l [0,1] (M := [.box bk135 [.slice wa0 (List.length m0) wc0, .bool bd0] 126, .vec wa0 wc0 1 (bys m0) 5]) En176 Hv150 (fun hM179 => dwnum_go _ bk135 wa0 wc0 m0 bd0 2 (by omega) (UInt16.toNat x161) (by omega) (by first | omega | (simp only [List.length_nil, List.length_append, beN_len]; omega) | (simp only [u16F, beN_len, List.length_nil, List.length_append]; omega) | (simp only [wput_len, beN_len, List.length_nil, List.length_append]; omega) | (simp [wput_len, beN_len]; done) | (simp [wput_len, beN_len]; omega)) hM179) ?_
  rintro _ wo180 ⟨wa177, wc178, rfl, he181⟩
  refine ⟨_, _, [.box bk135 [.slice wa177 (List.length (m0 ++ beN 2 (UInt16.toNat x161))) wc178, .bool bd0] 126, .vec wa177 wc178 1 (bys (m0 ++ beN 2 (UInt16.toNat x161))) 5, .box bk10 [.slice wa124 (List.length (dput 1 0 32 (([] ++ beN 2 (UInt16.toNat vv)) ++ ar) b)) wc125, .bool (false || dbad 1 0 32 (List.length b))] 126, .vec wa124 wc125 1 (bys (dput 1 0 32 (([] ++ beN 2 (UInt16.toNat vv)) ++ ar) b)) 5, .box bk1 (([uv16 vv] : List Value) ++ ((bys ar) ++ ([.slice ab (List.length b) cb, .slice an (List.length ns) cn, .slice al (List.length xs) cl] : List Value))) 75], rfl, he181, by kernel_rfl, fun ac183 En184 Hv185 => ?_⟩
  refine f_e ?_
  refine block_normal ?_
  refine then_normal ?_
  refine d_r [1,2,3,4,5] [(1, g_n (w_a i 1))] En184 fun ac186 En187 => ?_
  refine then_normal ?_
  refine ⟨_, ⟨i + 1, wa177, wc178, (m0 ++ beN 2 (UInt16.toNat x161)), bd0, rfl, En187.sb, Hv185.pk [0, 1, 2, 3, 4], (by rw [allM_take hx160, ← hfo] <;> rfl)⟩, ?_⟩
  omega
 ·
  refine wp_exit ?_
  refine then_exit ?_
  refine then_exit ?_
  refine block_exit ?_
  refine then_normal ?_
  refine wp_seq ?_
  have hfe := allM_all (F := u16F) (f := (fun y : RU16 => y)) (xs := ns) (i := i) (by omega)
  rw [← hfo] at hfe
  have ha : List.length m0 ≤ 16777216 := by have h := hza; rw [← hfe] at h; exact h
  have hd2 := dput_len 2 2 16777215 (dput 1 0 32 (([] ++ beN 2 (UInt16.toNat vv)) ++ ar) b) m0
  refine region_from ?_
  refine d_k [1,2,3,4,5,45,46] [] 2 En157 fun ac188 En189 => ?_
  refine f_o ?_
  refine c_l [2,3,0,1] (M := [.box bk10 [.slice wa124 (List.length (dput 1 0 32 (([] ++ beN 2 (UInt16.toNat vv)) ++ ar) b)) wc125, .bool (false || dbad 1 0 32 (List.length b))] 126, .vec wa124 wc125 1 (bys (dput 1 0 32 (([] ++ beN 2 (UInt16.toNat vv)) ++ ar) b)) 5, .box bk135 [.slice wa0 (List.length m0) wc0, .bool bd0] 126, .vec wa0 wc0 1 (bys m0) 5]) En189 Hv150 (fun hM192 => dpartw_go _ bk10 wa124 wc125 (dput 1 0 32 (([] ++ beN 2 (UInt16.toNat vv)) ++ ar) b) (false || dbad 1 0 32 (List.length b)) bk135 wa0 wc0 m0 bd0 2 (by omega) 2 (by omega) (by first | omega | (simp only [List.length_nil, List.length_append, beN_len]; omega) | (simp only [u16F, beN_len, List.length_nil, List.length_append]; omega) | (simp only [wput_len, beN_len, List.length_nil, List.length_append]; omega) | (simp [wput_len, beN_len]; done) | (simp [wput_len, beN_len]; omega)) hM192) ?_
  rintro _ wo193 ⟨wa190, wc191, rfl, he194⟩
  refine ⟨_, _, [.box bk10 [.slice wa190 (List.length (dput 2 2 16777215 (dput 1 0 32 (([] ++ beN 2 (UInt16.toNat vv)) ++ ar) b) m0)) wc191, .bool (((false || dbad 1 0 32 (List.length b)) || bd0) || dbad 2 2 16777215 (List.length m0))] 126, .vec wa190 wc191 1 (bys (dput 2 2 16777215 (dput 1 0 32 (([] ++ beN 2 (UInt16.toNat vv)) ++ ar) b) m0)) 5, .box bk135 [.slice wa0 (List.length m0) wc0, .bool bd0] 126, .vec wa0 wc0 1 (bys m0) 5, .box bk1 (([uv16 vv] : List Value) ++ ((bys ar) ++ ([.slice ab (List.length b) cb, .slice an (List.length ns) cn, .slice al (List.length xs) cl] : List Value))) 75], rfl, he194, by kernel_rfl, fun ac196 En197 Hv198 => ?_⟩
  refine f_e ?_
  refine then_normal ?_
  refine wp_seq ?_
  refine region_from ?_
  refine d_k [1,2,3,4,5,48,51] [] 4 En197 fun ac199 En200 => ?_
  refine f_o ?_
  refine m_l 0 En200 Hv198 fun ac201 En202 => ?_
  refine f_o ?_
  refine op_lit (d := some 53) (t := 23) (T := 5) (m := 2) (parts := #[(0, .int .u8 1), (1, .int .u8 0)]) (xs := bys [(1 : UInt8), (0 : UInt8)]) (sz := 1) En202 (by kernel_rfl) (by kernel_rfl) rfl (by decide) Hv198 ?_
  intro ac204 wo205 bk203 En206 Hv207
  refine f_o ?_
  refine op_append (d := some 54) (t := 23) (tx := 23) (ty := 23) (k := 1) (p := List.length (dput 2 2 16777215 (dput 1 0 32 (([] ++ beN 2 (UInt16.toNat vv)) ++ ar) b) m0)) (m := 2) (x := .slice (some ⟨bk203, 0, none⟩) 2 2) (bytes := 1) En206 (by kernel_rfl) Hv207 rfl (bys_len _) (Reads.src (size := 1) (tx := 23) (e' := 5) (by kernel_rfl) (Hv207.heap.reads (k := 5) rfl) rfl (fun e => by cases e) (bys_one _)) (by kernel_rfl) (z := .int .u8 0) (by kernel_rfl) rfl (by decide) (by first | omega | (simp [beN_len]; done) | (simp [beN_len]; omega)) (by unfold maxLen; first | omega | (simp [beN_len]; done) | (simp [beN_len]; omega)) ?_
  intro ac212 wo213 ao208 cp209 En214 Hv215 hnz _
  clear hnz
  rw [← bys_append] at Hv215
  have ehz210 : (List.length (dput 2 2 16777215 (dput 1 0 32 (([] ++ beN 2 (UInt16.toNat vv)) ++ ar) b) m0)) + 2 = List.length ((dput 2 2 16777215 (dput 1 0 32 (([] ++ beN 2 (UInt16.toNat vv)) ++ ar) b) m0) ++ [(1 : UInt8), (0 : UInt8)]) := (by first | (simp; done) | (simp; omega) | omega)
  rw [ehz210] at En214
  refine d_k [1,2,3,4,5,54,56] [] 9 En214 fun ac216 En217 => ?_
  refine f_o ?_
  refine m_s 0 [.box bk10 [.slice ao208 (List.length ((dput 2 2 16777215 (dput 1 0 32 (([] ++ beN 2 (UInt16.toNat vv)) ++ ar) b) m0) ++ [(1 : UInt8), (0 : UInt8)])) cp209, .bool (((false || dbad 1 0 32 (List.length b)) || bd0) || dbad 2 2 16777215 (List.length m0))] 126, .vec ao208 cp209 1 (bys ((dput 2 2 16777215 (dput 1 0 32 (([] ++ beN 2 (UInt16.toNat vv)) ++ ar) b) m0) ++ [(1 : UInt8), (0 : UInt8)])) 5, .box bk135 [.slice wa0 (List.length m0) wc0, .bool bd0] 126, .vec wa0 wc0 1 (bys m0) 5, .box bk1 (([uv16 vv] : List Value) ++ ((bys ar) ++ ([.slice ab (List.length b) cb, .slice an (List.length ns) cn, .slice al (List.length xs) cl] : List Value))) 75, .vec (some ⟨bk203, 0, none⟩) 2 1 (bys [(1 : UInt8), (0 : UInt8)]) 5] En217 Hv215 fun ac218 wo219 En220 Hv221 => ?_
  refine f_e ?_
  refine then_normal ?_
  refine wp_seq ?_
  refine wp_seq ?_
  have hx2 : List.length (dput 2 2 16777215 (dput 1 0 32 (([] ++ beN 2 (UInt16.toNat vv)) ++ ar) b) m0 ++ [1, 0]) = List.length (dput 2 2 16777215 (dput 1 0 32 (([] ++ beN 2 (UInt16.toNat vv)) ++ ar) b) m0) + 2 := List.length_append
  refine d_r [1,2,3,4,5,6] [] En220 fun ac222 En223 => ?_
  refine then_normal ?_
  refine wp_block ?_
  refine loop_m (fun ms224 ac wo => ∃ (k : Nat) (od3 : Bool), ms224 = (List.length xs - k : Nat) ∧ Env ac 87 [(1, pt bk1), (2, .slice none 0 0), (3, pt bk10), (4, pt bk135), (5, ni i), (6, ni k)] ∧ Ev w [] wo [.box bk10 [.slice ao208 (List.length ((dput 2 2 16777215 (dput 1 0 32 (([] ++ beN 2 (UInt16.toNat vv)) ++ ar) b) m0) ++ [(1 : UInt8), (0 : UInt8)])) cp209, .bool od3] 126, .vec ao208 cp209 1 (bys ((dput 2 2 16777215 (dput 1 0 32 (([] ++ beN 2 (UInt16.toNat vv)) ++ ar) b) m0) ++ [(1 : UInt8), (0 : UInt8)])) 5, .box bk135 [.slice wa0 (List.length m0) wc0, .bool bd0] 126, .vec wa0 wc0 1 (bys m0) 5, .box bk1 (([uv16 vv] : List Value) ++ ((bys ar) ++ ([.slice ab (List.length b) cb, .slice an (List.length ns) cn, .slice al (List.length xs) cl] : List Value))) 75, .vec (some ⟨bk203, 0, none⟩) 2 1 (bys [(1 : UInt8), (0 : UInt8)]) 5] ∧ (k ≤ List.length xs - 1) ∧ (od3 = ((((false || dbad 1 0 32 (List.length b)) || bd0) || dbad 2 2 16777215 (List.length m0)) || hasE 41 (List.take k (List.map (fun y : RExt => (y.1, y.2.1.l)) xs))))) ⟨_, 0, (((false || dbad 1 0 32 (List.length b)) || bd0) || dbad 2 2 16777215 (List.length m0)), rfl, En223.sb, Hv221.pk [0, 1, 2, 3, 4, 5], (Nat.zero_le _), (by rw [List.take_zero]; exact (Bool.or_false _).symm)⟩ ?_
  rintro mm230 ac226 wo227 ⟨k, od3, rfl, En228, Hv229, hkl, ho3⟩
  refine wp_seq ?_
  refine wp_seq ?_
  refine region_from ?_
  refine d_k [1,2,3,4,5,6,57,58] [] 2 En228 fun ac231 En232 => ?_
  refine f_o ?_
  refine m_v 4 35 (.slice al (List.length xs) cl) En232 Hv229 rfl (seg_skip (n := 1) (j := 34) rfl (seg_skip (n := 32) (j := 2) (bys_lenh har) rfl)) fun ac233 En234 => ?_
  refine d_e [1,2,3,4,5,6,62] [(4, g_n (w_r (e := ((List.length xs : Nat) : Int) - (1 : Int)) (x := ((List.length xs : Nat) : Int) - (1 : Int)) (by omega)))] En234 fun ac235 En236 => ?_
  refine then_normal ?_
  refine c_d (((k : Nat) : Int) < ((List.length xs : Nat) : Int) - (1 : Int)) En236 (fun hc237 => ?_) (fun hc237 => ?_)
  ·
   refine wp_skip ?_
   refine then_normal ?_
   refine wp_seq ?_
   refine wp_block ?_
   have hb238 : k < List.length xs := by omega
   obtain ⟨⟨x240a, ⟨a_x240b, c_x240b, x240b⟩, _⟩, hx239⟩ : ∃ x, (xs)[k]? = some x := ⟨_, List.getElem?_eq_getElem hb238⟩
   obtain ⟨_, i_x240b, _⟩ := il.each _ (List.mem_of_getElem? hx239)
   replace i_x240b : InB w [] a_x240b c_x240b x240b := i_x240b
   refine region_from ?_
   refine d_k [1,2,3,4,5,6,65,68] [] 4 En236 fun ac241 En242 => ?_
   refine f_o ?_
   refine m_l 0 En242 Hv229 fun ac243 En244 => ?_
   refine d_k [1,2,3,4,5,6,65,70] [] 6 En244 fun ac245 En246 => ?_
   rcases Bool.eq_false_or_eq_true (od3) with hb247 | hb247
   ·
    have En248 := En246.fx (t := 70) (congrArg Value.bool hb247)
    have hp249 : od3 = true := hb247
    refine d_k [1,2,3,4,5,6,78,80] [] 16 En248 fun ac250 En251 => ?_
    refine f_o ?_
    refine m_s 0 [.box bk10 [.slice ao208 (List.length ((dput 2 2 16777215 (dput 1 0 32 (([] ++ beN 2 (UInt16.toNat vv)) ++ ar) b) m0) ++ [(1 : UInt8), (0 : UInt8)])) cp209, .bool true] 126, .vec ao208 cp209 1 (bys ((dput 2 2 16777215 (dput 1 0 32 (([] ++ beN 2 (UInt16.toNat vv)) ++ ar) b) m0) ++ [(1 : UInt8), (0 : UInt8)])) 5, .box bk135 [.slice wa0 (List.length m0) wc0, .bool bd0] 126, .vec wa0 wc0 1 (bys m0) 5, .box bk1 (([uv16 vv] : List Value) ++ ((bys ar) ++ ([.slice ab (List.length b) cb, .slice an (List.length ns) cn, .slice al (List.length xs) cl] : List Value))) 75, .vec (some ⟨bk203, 0, none⟩) 2 1 (bys [(1 : UInt8), (0 : UInt8)]) 5] En251 Hv229 fun ac252 wo253 En254 Hv255 => ?_
    refine f_e ?_
    refine block_normal ?_
    refine then_normal ?_
    refine d_r [1,2,3,4,5,6] [(1, g_n (w_a k 1))] En254 fun ac256 En257 => ?_
    refine then_normal ?_
    refine ⟨_, ⟨k + 1, true, rfl, En257.sb, Hv255.pk [0, 1, 2, 3, 4, 5], (by omega), (has_t (show (List.map (fun y : RExt => (y.1, y.2.1.l)) xs)[k]? = some ((fun y : RExt => (y.1, y.2.1.l)) (x240a, ⟨a_x240b, c_x240b, x240b⟩, ())) from by rw [List.getElem?_map, hx239]; rfl) ho3 hp249)⟩, ?_⟩
    omega
   ·
    have En258 := En246.fx (t := 70) (congrArg Value.bool hb247)
    have hp259 : ¬ (od3 = true) := Bool.eq_false_iff.1 hb247
    refine d_k [1,2,3,4,5,6,65,70,71] [] 7 En258 fun ac260 En261 => ?_
    refine f_o ?_
    refine m_v 4 35 (.slice al (List.length xs) cl) En261 Hv229 rfl (seg_skip (n := 1) (j := 34) rfl (seg_skip (n := 32) (j := 2) (bys_lenh har) rfl)) fun ac262 En263 => ?_
    have hb266 : k < List.length xs := (by omega)
    obtain ⟨adr264, had265⟩ := some_of il.nz hb266
    refine d_k [1,2,3,4,5,6,65,70,72,73] [] 9 En263 fun ac267 En268 => ?_
    refine f_o ?_
    refine q_v (x := Instr.indexAt 36 (.slice al (List.length xs) cl) (ni k)) (v := .pointer (some (Addr.add adr264 (k * 2)))) En268 (Go.Dbr.run_indexsl (e := 147) (sz := 2) (j := k) (jo := k * 2) had265 (by kernel_rfl) (by kernel_rfl) (by omega) hb266 rfl _) fun ac269 En270 => ?_
    refine d_k [1,2,3,4,5,6,65,70,75] [] 11 En270 fun ac271 En272 => ?_
    refine f_o ?_
    refine op_loadf (d := some 76) (t := 37) (ad := adr264) (ao := al) (ys := List.flatMap fExt xs) (o := k * 2) (v := uv16 x240a) En272 (by kernel_rfl) rfl (il.ro.ev Hv229).reads had265 ((flat_get (sz := 2) (j := 0) (fun _ _ => rfl) hx239 (by decide)).trans rfl) (by kernel_rfl) ?_
    intro ac273 En274
    refine d_k [1,2,3,4,5,6,78,80] [] 16 En274 fun ac275 En276 => ?_
    refine f_o ?_
    refine m_s 0 [.box bk10 [.slice ao208 (List.length ((dput 2 2 16777215 (dput 1 0 32 (([] ++ beN 2 (UInt16.toNat vv)) ++ ar) b) m0) ++ [(1 : UInt8), (0 : UInt8)])) cp209, .bool (((UInt16.toNat x240a : Nat) : Int) == (41 : Int))] 126, .vec ao208 cp209 1 (bys ((dput 2 2 16777215 (dput 1 0 32 (([] ++ beN 2 (UInt16.toNat vv)) ++ ar) b) m0) ++ [(1 : UInt8), (0 : UInt8)])) 5, .box bk135 [.slice wa0 (List.length m0) wc0, .bool bd0] 126, .vec wa0 wc0 1 (bys m0) 5, .box bk1 (([uv16 vv] : List Value) ++ ((bys ar) ++ ([.slice ab (List.length b) cb, .slice an (List.length ns) cn, .slice al (List.length xs) cl] : List Value))) 75, .vec (some ⟨bk203, 0, none⟩) 2 1 (bys [(1 : UInt8), (0 : UInt8)]) 5] En276 Hv229 fun ac277 wo278 En279 Hv280 => ?_
    refine f_e ?_
    refine block_normal ?_
    refine then_normal ?_
    refine d_r [1,2,3,4,5,6] [(1, g_n (w_a k 1))] En279 fun ac281 En282 => ?_
    refine then_normal ?_
    refine ⟨_, ⟨k + 1, (((UInt16.toNat x240a : Nat) : Int) == (41 : Int)), rfl, En282.sb, Hv280.pk [0, 1, 2, 3, 4, 5], (by omega), (has_f (show (List.map (fun y : RExt => (y.1, y.2.1.l)) xs)[k]? = some ((fun y : RExt => (y.1, y.2.1.l)) (x240a, ⟨a_x240b, c_x240b, x240b⟩, ())) from by rw [List.getElem?_map, hx239]; rfl) ho3 hp259)⟩, ?_⟩
    omega
  ·
   refine wp_exit ?_
   refine then_exit ?_
   refine then_exit ?_
   refine block_exit ?_
   refine then_normal ?_
   refine wp_seq ?_
   have hk9 : k = List.length xs - 1 := by omega
   have ho4 : od3 = ((((false || dbad 1 0 32 (List.length b)) || bd0) || dbad 2 2 16777215 (List.length m0)) || dlq (List.map (fun y : RExt => (y.1, y.2.1.l)) xs)) := by rw [ho3, hk9, dlq, List.length_map]
   clear ho3
   subst ho4
   refine region_from ?_
   refine d_k [1,2,3,4,5,6,81,82] [] 2 En236 fun ac283 En284 => ?_
   refine f_o ?_
   refine m_v 4 35 (.slice al (List.length xs) cl) En284 Hv229 rfl (seg_skip (n := 1) (j := 34) rfl (seg_skip (n := 32) (j := 2) (bys_lenh har) rfl)) fun ac285 En286 => ?_
   refine f_o ?_
   refine c_l [0,1] (M := [.box bk10 [.slice ao208 (List.length ((dput 2 2 16777215 (dput 1 0 32 (([] ++ beN 2 (UInt16.toNat vv)) ++ ar) b) m0) ++ [(1 : UInt8), (0 : UInt8)])) cp209, .bool ((((false || dbad 1 0 32 (List.length b)) || bd0) || dbad 2 2 16777215 (List.length m0)) || dlq (List.map (fun y : RExt => (y.1, y.2.1.l)) xs))] 126, .vec ao208 cp209 1 (bys ((dput 2 2 16777215 (dput 1 0 32 (([] ++ beN 2 (UInt16.toNat vv)) ++ ar) b) m0) ++ [(1 : UInt8), (0 : UInt8)])) 5]) En286 Hv229 (fun hM289 => dwexts_go _ bk10 ao208 cp209 ((dput 2 2 16777215 (dput 1 0 32 (([] ++ beN 2 (UInt16.toNat vv)) ++ ar) b) m0) ++ [(1 : UInt8), (0 : UInt8)]) ((((false || dbad 1 0 32 (List.length b)) || bd0) || dbad 2 2 16777215 (List.length m0)) || dlq (List.map (fun y : RExt => (y.1, y.2.1.l)) xs)) al cl xs (il.go Hv229 [0, 1] (by kernel_rfl) (fun _ h => ⟨h.1, (InB.ev h.2.1 Hv229).pick [0, 1] (by kernel_rfl), h.2.2⟩)) (by first | omega | (simp only [List.length_nil, List.length_append, beN_len]; omega) | (simp only [u16F, beN_len, List.length_nil, List.length_append]; omega) | (simp only [wput_len, beN_len, List.length_nil, List.length_append]; omega) | (simp [wput_len, beN_len]; done) | (simp [wput_len, beN_len]; omega)) hM289) ?_
   rintro _ wo290 ⟨wa287, wc288, rfl, he291⟩
   refine ⟨_, _, [.box bk10 [.slice wa287 (List.length ((wdexF ((dput 2 2 16777215 (dput 1 0 32 (([] ++ beN 2 (UInt16.toNat vv)) ++ ar) b) m0) ++ [(1 : UInt8), (0 : UInt8)], (((false || dbad 1 0 32 (List.length b)) || bd0) || dbad 2 2 16777215 (List.length m0)) || dlq (List.map (fun y : RExt => (y.1, y.2.1.l)) xs)) (List.map (fun y : RExt => (y.1, y.2.1.l)) xs)).1)) wc288, .bool ((wdexF ((dput 2 2 16777215 (dput 1 0 32 (([] ++ beN 2 (UInt16.toNat vv)) ++ ar) b) m0) ++ [(1 : UInt8), (0 : UInt8)], (((false || dbad 1 0 32 (List.length b)) || bd0) || dbad 2 2 16777215 (List.length m0)) || dlq (List.map (fun y : RExt => (y.1, y.2.1.l)) xs)) (List.map (fun y : RExt => (y.1, y.2.1.l)) xs)).2)] 126, .vec wa287 wc288 1 (bys ((wdexF ((dput 2 2 16777215 (dput 1 0 32 (([] ++ beN 2 (UInt16.toNat vv)) ++ ar) b) m0) ++ [(1 : UInt8), (0 : UInt8)], (((false || dbad 1 0 32 (List.length b)) || bd0) || dbad 2 2 16777215 (List.length m0)) || dlq (List.map (fun y : RExt => (y.1, y.2.1.l)) xs)) (List.map (fun y : RExt => (y.1, y.2.1.l)) xs)).1)) 5, .box bk135 [.slice wa0 (List.length m0) wc0, .bool bd0] 126, .vec wa0 wc0 1 (bys m0) 5, .box bk1 (([uv16 vv] : List Value) ++ ((bys ar) ++ ([.slice ab (List.length b) cb, .slice an (List.length ns) cn, .slice al (List.length xs) cl] : List Value))) 75, .vec (some ⟨bk203, 0, none⟩) 2 1 (bys [(1 : UInt8), (0 : UInt8)]) 5], rfl, he291, by kernel_rfl, fun ac293 En294 Hv295 => ?_⟩
   refine f_e ?_
   refine then_normal ?_
   refine wp_seq ?_
   refine region_from ?_
   refine d_k [1,2,3,4,5,6,85] [] 1 En294 fun ac296 En297 => ?_
   refine f_o ?_
   refine c_l [0,1] (M := [.box bk10 [.slice wa287 (List.length ((wdexF ((dput 2 2 16777215 (dput 1 0 32 (([] ++ beN 2 (UInt16.toNat vv)) ++ ar) b) m0) ++ [(1 : UInt8), (0 : UInt8)], (((false || dbad 1 0 32 (List.length b)) || bd0) || dbad 2 2 16777215 (List.length m0)) || dlq (List.map (fun y : RExt => (y.1, y.2.1.l)) xs)) (List.map (fun y : RExt => (y.1, y.2.1.l)) xs)).1)) wc288, .bool ((wdexF ((dput 2 2 16777215 (dput 1 0 32 (([] ++ beN 2 (UInt16.toNat vv)) ++ ar) b) m0) ++ [(1 : UInt8), (0 : UInt8)], (((false || dbad 1 0 32 (List.length b)) || bd0) || dbad 2 2 16777215 (List.length m0)) || dlq (List.map (fun y : RExt => (y.1, y.2.1.l)) xs)) (List.map (fun y : RExt => (y.1, y.2.1.l)) xs)).2)] 126, .vec wa287 wc288 1 (bys ((wdexF ((dput 2 2 16777215 (dput 1 0 32 (([] ++ beN 2 (UInt16.toNat vv)) ++ ar) b) m0) ++ [(1 : UInt8), (0 : UInt8)], (((false || dbad 1 0 32 (List.length b)) || bd0) || dbad 2 2 16777215 (List.length m0)) || dlq (List.map (fun y : RExt => (y.1, y.2.1.l)) xs)) (List.map (fun y : RExt => (y.1, y.2.1.l)) xs)).1)) 5]) En297 Hv295 (fun hM300 => ddone_go _ bk10 wa287 wc288 ((wdexF ((dput 2 2 16777215 (dput 1 0 32 (([] ++ beN 2 (UInt16.toNat vv)) ++ ar) b) m0) ++ [(1 : UInt8), (0 : UInt8)], (((false || dbad 1 0 32 (List.length b)) || bd0) || dbad 2 2 16777215 (List.length m0)) || dlq (List.map (fun y : RExt => (y.1, y.2.1.l)) xs)) (List.map (fun y : RExt => (y.1, y.2.1.l)) xs)).1) ((wdexF ((dput 2 2 16777215 (dput 1 0 32 (([] ++ beN 2 (UInt16.toNat vv)) ++ ar) b) m0) ++ [(1 : UInt8), (0 : UInt8)], (((false || dbad 1 0 32 (List.length b)) || bd0) || dbad 2 2 16777215 (List.length m0)) || dlq (List.map (fun y : RExt => (y.1, y.2.1.l)) xs)) (List.map (fun y : RExt => (y.1, y.2.1.l)) xs)).2) hM300) ?_
   rintro _ wo301 ⟨da298, dc299, rfl, he302⟩
   refine ⟨_, _, [.vec da298 dc299 1 (bys (doneL ((wdexF ((dput 2 2 16777215 (dput 1 0 32 (([] ++ beN 2 (UInt16.toNat vv)) ++ ar) b) m0) ++ [(1 : UInt8), (0 : UInt8)], (((false || dbad 1 0 32 (List.length b)) || bd0) || dbad 2 2 16777215 (List.length m0)) || dlq (List.map (fun y : RExt => (y.1, y.2.1.l)) xs)) (List.map (fun y : RExt => (y.1, y.2.1.l)) xs)).2) ((wdexF ((dput 2 2 16777215 (dput 1 0 32 (([] ++ beN 2 (UInt16.toNat vv)) ++ ar) b) m0) ++ [(1 : UInt8), (0 : UInt8)], (((false || dbad 1 0 32 (List.length b)) || bd0) || dbad 2 2 16777215 (List.length m0)) || dlq (List.map (fun y : RExt => (y.1, y.2.1.l)) xs)) (List.map (fun y : RExt => (y.1, y.2.1.l)) xs)).1))) 5, .box bk135 [.slice wa0 (List.length m0) wc0, .bool bd0] 126, .vec wa0 wc0 1 (bys m0) 5, .box bk1 (([uv16 vv] : List Value) ++ ((bys ar) ++ ([.slice ab (List.length b) cb, .slice an (List.length ns) cn, .slice al (List.length xs) cl] : List Value))) 75, .vec (some ⟨bk203, 0, none⟩) 2 1 (bys [(1 : UInt8), (0 : UInt8)]) 5], rfl, he302, by kernel_rfl, fun ac304 En305 Hv306 => ?_⟩
   refine d_e [1,2,3,4,5,6] [] En305 fun ac307 En308 => ?_
   refine then_normal ?_
   refine wp_ret ?_
   refine d_ret1 (t := 2) (v := .slice da298 (List.length (doneL ((wdexF ((dput 2 2 16777215 (dput 1 0 32 (([] ++ beN 2 (UInt16.toNat vv)) ++ ar) b) m0) ++ [(1 : UInt8), (0 : UInt8)], (((false || dbad 1 0 32 (List.length b)) || bd0) || dbad 2 2 16777215 (List.length m0)) || dlq (List.map (fun y : RExt => (y.1, y.2.1.l)) xs)) (List.map (fun y : RExt => (y.1, y.2.1.l)) xs)).2) ((wdexF ((dput 2 2 16777215 (dput 1 0 32 (([] ++ beN 2 (UInt16.toNat vv)) ++ ar) b) m0) ++ [(1 : UInt8), (0 : UInt8)], (((false || dbad 1 0 32 (List.length b)) || bd0) || dbad 2 2 16777215 (List.length m0)) || dlq (List.map (fun y : RExt => (y.1, y.2.1.l)) xs)) (List.map (fun y : RExt => (y.1, y.2.1.l)) xs)).1))) dc299) En308 (by kernel_rfl) (by kernel_rfl) ?_
   unfold dcliP dcliF dnmF
   rw [← hfe]
   exact ⟨da298, dc299, rfl, Hv306.pk [0]⟩

theorem dpserver_go (w : World) (vv : UInt16) (ar : Bs) (har : List.length ar = 32) (ab : Option Addr) (cb : Nat) (b : Bs) (an : Option Addr) (cn : Nat) (ns : List RU16) (al : Option Addr) (cl : Nat) (xs : List RExt) (ib : InB w [] ab cb b) (iln : InS fU16 2 (fun y : RU16 => True) w [] an cn ns) (il : InS fExt 32 (fun y : RExt => (True ∧ (InB w [] y.2.1.a y.2.1.c y.2.1.l ∧ (True)))) w [] al cl xs) (hq0 : List.length (allM exF (List.map (fun y : RExt => (y.1, y.2.1.l)) xs)).1 ≤ 16777216) (hqn : allB u16F (List.map (fun y : RU16 => y) ns)) (hbt : List.length b ≤ 16777216) : Calls Try.prog 75 #[.agg (List.toArray (([uv16 vv] : List Value) ++ ((bys ar) ++ ([.slice ab (List.length b) cb, .slice an (List.length ns) cn, .slice al (List.length xs) cl] : List Value))))] w fun e w' => ∃ a' c', e = .returned (.slice a' (List.length (dsrvP (vv, ar, b, (List.map (fun y : RU16 => y) ns), (List.map (fun y : RExt => (y.1, y.2.1.l)) xs)))) c') ∧ Ev w [] w' [.vec a' c' 1 (bys (dsrvP (vv, ar, b, (List.map (fun y : RU16 => y) ns), (List.map (fun y : RExt => (y.1, y.2.1.l)) xs)))) 5] := by
 have hbs := ib.small
 have hza := allB_all hqn
 have hzl := il.small
 have hgv := UInt16.toNat_lt vv
 have hl0 : List.length ([] ++ beN 2 (UInt16.toNat vv)) = 2 := by rw [List.nil_append, beN_len]
 have hl1 : List.length (([] ++ beN 2 (UInt16.toNat vv)) ++ ar) = 34 := by rw [List.length_append, hl0, har]
 have hd1 := dput_len 1 0 32 (([] ++ beN 2 (UInt16.toNat vv)) ++ ar) b
 rw [hl1] at hd1
 refine d_0 [(0, .agg (List.toArray (([uv16 vv] : List Value) ++ ((bys ar) ++ ([.slice ab (List.length b) cb, .slice an (List.length ns) cn, .slice al (List.length xs) cl] : List Value)))))] 51 Go.Proofs.Try.func75 Go.Proofs.Try.ntmps75 (Heap.nil _) fun act0 En0 Hv0 => ?_
 refine wp_seq ?_
 refine region_from ?_
 refine f_o ?_
 refine m_m 75 (([uv16 vv] : List Value) ++ ((bys ar) ++ ([.slice ab (List.length b) cb, .slice an (List.length ns) cn, .slice al (List.length xs) cl] : List Value))) En0 Hv0 fun ac2 wo3 bk1 En4 Hv5 => ?_
 refine d_e [1,2] [] En4 fun ac6 En7 => ?_
 refine then_normal ?_
 refine wp_seq ?_
 refine wp_seq ?_
 refine region_from ?_
 refine d_k [1,2,4] [] 1 En7 fun ac8 En9 => ?_
 refine f_o ?_
 refine m_v 0 34 (.slice an (List.length ns) cn) En9 Hv5 rfl (seg_skip (n := 1) (j := 33) rfl (seg_skip (n := 32) (j := 1) (bys_lenh har) rfl)) fun ac10 En11 => ?_
 refine d_e [1,2,7] [] En11 fun ac12 En13 => ?_
 refine then_normal ?_
 refine c_n ((List.length ns : Nat) : Int) (1 : Int) En13 (fun hc14 => ?_) (fun hc14 => ?_)
 ·
  refine wp_seq ?_
  refine d_r [1,2] [] En13 fun ac15 En16 => ?_
  refine then_normal ?_
  refine wp_ret ?_
  refine then_ret ?_
  refine d_ret1 (t := 2) (v := .slice none 0 0) En16 (by kernel_rfl) (by kernel_rfl) ?_
  have hn0 : dsrvP (vv, ar, b, (List.map (fun y : RU16 => y) ns), (List.map (fun y : RExt => (y.1, y.2.1.l)) xs)) = [] := dsrv_n (by show ¬ List.length (List.map (fun y : RU16 => y) ns) = 1; rw [List.length_map]; first | assumption | omega)
  rw [hn0]
  exact ⟨none, 0, rfl, (Ev.nil (sz := 1) (T := 5) Hv5).pk [1]⟩
 ·
  refine wp_skip ?_
  refine then_normal ?_
  refine wp_seq ?_
  have hn1 : List.length ns = 1 := by first | assumption | exact Classical.not_not.1 (by assumption) | omega
  have hb17 : 0 < List.length ns := by omega
  obtain ⟨x19, hx18⟩ : ∃ x, (ns)[0]? = some x := ⟨_, List.getElem?_eq_getElem hb17⟩
  obtain _ := iln.each _ (List.mem_of_getElem? hx18)
  have hgl := UInt16.toNat_lt x19
  have hzu : List.length (dput 1 0 32 (([] ++ beN 2 (UInt16.toNat vv)) ++ ar) b ++ beN 2 (UInt16.toNat x19)) = List.length (dput 1 0 32 (([] ++ beN 2 (UInt16.toNat vv)) ++ ar) b) + 2 := by rw [List.length_append, beN_len]
  have hzv : List.length ((dput 1 0 32 (([] ++ beN 2 (UInt16.toNat vv)) ++ ar) b ++ beN 2 (UInt16.toNat x19)) ++ [0]) = List.length (dput 1 0 32 (([] ++ beN 2 (UInt16.toNat vv)) ++ ar) b ++ beN 2 (UInt16.toNat x19)) + 1 := List.length_append
  refine region_from ?_
  refine d_k [1,2,8] [] 1 En13 fun ac20 En21 => ?_
  refine f_o ?_
  refine m_m 126 [.slice none 0 0, .bool false] En21 Hv5 fun ac23 wo24 bk22 En25 Hv26 => ?_
  refine d_e [1,2,3] [] En25 fun ac27 En28 => ?_
  refine then_normal ?_
  refine wp_seq ?_
  refine region_from ?_
  refine d_k [1,2,3,10,11] [] 2 En28 fun ac29 En30 => ?_
  refine f_o ?_
  refine m_v 0 0 (uv16 vv) En30 Hv26 rfl (seg_in rfl) fun ac31 En32 => ?_
  refine d_k [1,2,3,10,13] [(3, g_i .i64 (Go.Dbr.u16_to_i64 (x := vv) rfl))] 4 En32 fun ac33 En34 => ?_
  refine f_o ?_
  have Hv35 : Ev w [] wo24 [.box bk1 (([uv16 vv] : List Value) ++ ((bys ar) ++ ([.slice ab (List.length b) cb, .slice an (List.length ns) cn, .slice al (List.length xs) cl] : List Value))) 75, .box bk22 [.slice none 0 0, .bool false] 126, .vec none 0 1 (bys []) 5] := Ev.nil (sz := 1) (T := 5) Hv26
  refine c_l [1,2] (M := [.box bk22 [.slice none 0 0, .bool false] 126, .vec none 0 1 (bys []) 5]) En34 Hv35 (fun hM38 => dwnum_go _ bk22 none 0 [] false 2 (by omega) (UInt16.toNat vv) (by omega) (by first | omega | (simp only [List.length_nil, List.length_append, beN_len]; omega) | (simp only [u16F, beN_len, List.length_nil, List.length_append]; omega) | (simp only [wput_len, beN_len, List.length_nil, List.length_append]; omega) | (simp [wput_len, beN_len]; done) | (simp [wput_len, beN_len]; omega)) hM38) ?_
  rintro _ wo39 ⟨wa36, wc37, rfl, he40⟩
  refine ⟨_, _, [.box bk22 [.slice wa36 (List.length ([] ++ beN 2 (UInt16.toNat vv))) wc37, .bool false] 126, .vec wa36 wc37 1 (bys ([] ++ beN 2 (UInt16.toNat vv))) 5, .box bk1 (([uv16 vv] : List Value) ++ ((bys ar) ++ ([.slice ab (List.length b) cb, .slice an (List.length ns) cn, .slice al (List.length xs) cl] : List Value))) 75], rfl, he40, by kernel_rfl, fun ac42 En43 Hv44 => ?_⟩
  refine f_e ?_
  refine then_normal ?_
  refine wp_seq ?_
  refine r_c (fun ac wo => ∃ (ao92 : Option Addr) (cp93 : Nat), Env ac 51 [(1, pt bk1), (2, .slice none 0 0), (3, pt bk22)] ∧ Ev w [] wo [.box bk22 [.slice ao92 (List.length (([] ++ beN 2 (UInt16.toNat vv)) ++ ar)) cp93, .bool false] 126, .vec ao92 cp93 1 (bys (([] ++ beN 2 (UInt16.toNat vv)) ++ ar)) 5, .box bk1 (([uv16 vv] : List Value) ++ ((bys ar) ++ ([.slice ab (List.length b) cb, .slice an (List.length ns) cn, .slice al (List.length xs) cl] : List Value))) 75]) ?_ ?_
  ·
   refine h_s (fun wv => Ev w [] wv [.box bk22 [.slice wa36 (List.length ([] ++ beN 2 (UInt16.toNat vv))) wc37, .bool false] 126, .box bk1 (([uv16 vv] : List Value) ++ ((bys ar) ++ ([.slice ab (List.length b) cb, .slice an (List.length ns) cn, .slice al (List.length xs) cl] : List Value))) 75]) [10] 11 ?_
   have wo45 := Hv44.trans (Ev.drew Hv44.heap)
   refine q_s [0,1,2,3] [] 7 En43 (wo45.pk [0, 2]) fun ac106 En107 => ?_
   refine q_l 0 4 En107 (wo45.pk [0, 2]) fun ac108 En109 => ?_
   refine q_s [5] [] 5 En109 (wo45.pk [0, 2]) fun ac110 En111 => ?_
   refine q_t 6 ?_
   refine op_slicearr (d := some 21) (t := 29) (e := 5) (sz := 1) (m := 32) (lo := 0) (hi := 32) (b := bk1) (off := 1) (lov := none) (hiv := none) (o := 1) En111 (by kernel_rfl) (by kernel_rfl) (by kernel_rfl) (by omega) (by omega) (by omega) (.inl ⟨rfl, rfl⟩) (.inl ⟨rfl, rfl⟩) (by omega) ?_
   intro ac112 En113
   refine ⟨fun _ => wo45.pk [0, 2], ?_⟩
   refine q_t 7 ?_
   refine op_append (d := some 22) (t := 23) (tx := 23) (ty := 23) (k := 1) (p := List.length ([] ++ beN 2 (UInt16.toNat vv))) (m := 32) (x := .slice (some ⟨bk1, 1, none⟩) 32 32) (bytes := 1) En113 (by kernel_rfl) wo45 rfl (bys_len _) (Reads.src (size := 1) (tx := 23) (e' := 5) (by kernel_rfl) (wo45.heap.readsBox (k := 2) (m := 32) (xs := bys ar) rfl (by simp [bys_lenh har, List.drop_append, List.take_append])) (bys_lenn (by first | (rw [har]) | (simp [har]; done) | (simp [har]; omega))) (fun e => by cases e) (bys_one _)) (by kernel_rfl) (z := .int .u8 0) (by kernel_rfl) rfl (by decide) (by first | omega | (simp [beN_len]; done) | (simp [beN_len]; omega)) (by unfold maxLen; first | omega | (simp [beN_len]; done) | (simp [beN_len]; omega)) ?_
   intro ac118 wo119 ao114 cp115 En120 Hv121 hnz _
   clear hnz
   rw [← bys_append] at Hv121
   have ehz116 : (List.length ([] ++ beN 2 (UInt16.toNat vv))) + 32 = List.length (([] ++ beN 2 (UInt16.toNat vv)) ++ ar) := (by first | (simp; done) | (simp; omega) | omega)
   rw [ehz116] at En120
   refine ⟨fun _ => Hv121.pk [0, 2], ?_⟩
   refine q_s [8,9] [] 1 En120 (Hv121.pk [0, 2]) fun ac122 En123 => ?_
   refine q_t 10 ?_
   refine m_s 0 [.box bk22 [.slice ao114 (List.length (([] ++ beN 2 (UInt16.toNat vv)) ++ ar)) cp115, .bool false] 126, .vec ao114 cp115 1 (bys (([] ++ beN 2 (UInt16.toNat vv)) ++ ar)) 5, .box bk1 (([uv16 vv] : List Value) ++ ((bys ar) ++ ([.slice ab (List.length b) cb, .slice an (List.length ns) cn, .slice al (List.length xs) cl] : List Value))) 75] En123 Hv121 fun ac124 wo125 En126 Hv127 => ?_
   refine ⟨q_y, ?_⟩
   exact h_e ⟨ao114, cp115, En126.sb, Hv127.pk [0, 1, 2]⟩
  rintro ac128 wo129 ⟨ao92, cp93, En130, Hv131⟩
  refine then_normal ?_
  refine wp_seq ?_
  refine region_from ?_
  refine d_k [1,2,3,25,26] [] 2 En130 fun ac132 En133 => ?_
  refine f_o ?_
  refine m_v 2 33 (.slice ab (List.length b) cb) En133 Hv131 rfl (seg_skip (n := 1) (j := 32) rfl (seg_skip (n := 32) (j := 0) (bys_lenh har) rfl)) fun ac134 En135 => ?_
  refine f_o ?_
  refine c_l [0,1] (M := [.box bk22 [.slice ao92 (List.length (([] ++ beN 2 (UInt16.toNat vv)) ++ ar)) cp93, .bool false] 126, .vec ao92 cp93 1 (bys (([] ++ beN 2 (UInt16.toNat vv)) ++ ar)) 5]) En135 Hv131 (fun hM138 => dwlist_go _ bk22 ao92 cp93 (([] ++ beN 2 (UInt16.toNat vv)) ++ ar) false 1 (by omega) 0 32 (by omega) (by omega) ab cb b ((ib.ev Hv131).pick [0, 1] (by kernel_rfl)) (by first | omega | (simp only [List.length_nil, List.length_append, beN_len]; omega) | (simp only [u16F, beN_len, List.length_nil, List.length_append]; omega) | (simp only [wput_len, beN_len, List.length_nil, List.length_append]; omega) | (simp [wput_len, beN_len]; done) | (simp [wput_len, beN_len]; omega)) hM138) ?_
  rintro _ wo139 ⟨wa136, wc137, rfl, he140⟩
  refine ⟨_, _, [.box bk22 [.slice wa136 (List.length (dput 1 0 32 (([] ++ beN 2 (UInt16.toNat vv)) ++ ar) b)) wc137, .bool (false || dbad 1 0 32 (List.length b))] 126, .vec wa136 wc137 1 (bys (dput 1 0 32 (([] ++ beN 2 (UInt16.toNat vv)) ++ ar) b)) 5, .box bk1 (([uv16 vv] : List Value) ++ ((bys ar) ++ ([.slice ab (List.length b) cb, .slice an (List.length ns) cn, .slice al (List.length xs) cl] : List Value))) 75], rfl, he140, by kernel_rfl, fun ac142 En143 Hv144 => ?_⟩
  refine f_e ?_
  refine then_normal ?_
  refine wp_seq ?_
  refine region_from ?_
  refine d_k [1,2,3,29,30] [] 2 En143 fun ac145 En146 => ?_
  refine f_o ?_
  refine m_v 2 34 (.slice an (List.length ns) cn) En146 Hv144 rfl (seg_skip (n := 1) (j := 33) rfl (seg_skip (n := 32) (j := 1) (bys_lenh har) rfl)) fun ac147 En148 => ?_
  have hb151 : 0 < List.length ns := (by omega)
  obtain ⟨adr149, had150⟩ := some_of iln.nz hb151
  refine f_o ?_
  refine q_v (x := Instr.indexAt 32 (.slice an (List.length ns) cn) (.int .i64 0)) (v := .pointer (some (Addr.add adr149 0))) En148 (Go.Dbr.run_indexsl (e := 37) (sz := 1) (j := 0) (jo := 0) had150 (by kernel_rfl) (by kernel_rfl) (by omega) hb151 (Nat.mul_one _) _) fun ac152 En153 => ?_
  refine f_o ?_
  refine op_loadf (d := some 33) (t := 37) (ad := adr149) (ao := an) (ys := List.flatMap fU16 ns) (o := 0) (v := uv16 x19) En153 (by kernel_rfl) rfl (iln.ro.ev Hv144).reads had150 ((flat_get1 (fun _ _ => rfl) hx18).trans rfl) (by kernel_rfl) ?_
  intro ac154 En155
  refine d_k [1,2,3,29,34] [(5, g_i .i64 (Go.Dbr.u16_to_i64 (x := x19) rfl))] 6 En155 fun ac156 En157 => ?_
  refine f_o ?_
  refine c_l [0,1] (M := [.box bk22 [.slice wa136 (List.length (dput 1 0 32 (([] ++ beN 2 (UInt16.toNat vv)) ++ ar) b)) wc137, .bool (false || dbad 1 0 32 (List.length b))] 126, .vec wa136 wc137 1 (bys (dput 1 0 32 (([] ++ beN 2 (UInt16.toNat vv)) ++ ar) b)) 5]) En157 Hv144 (fun hM160 => dwnum_go _ bk22 wa136 wc137 (dput 1 0 32 (([] ++ beN 2 (UInt16.toNat vv)) ++ ar) b) (false || dbad 1 0 32 (List.length b)) 2 (by omega) (UInt16.toNat x19) (by omega) (by first | omega | (simp only [List.length_nil, List.length_append, beN_len]; omega) | (simp only [u16F, beN_len, List.length_nil, List.length_append]; omega) | (simp only [wput_len, beN_len, List.length_nil, List.length_append]; omega) | (simp [wput_len, beN_len]; done) | (simp [wput_len, beN_len]; omega)) hM160) ?_
  rintro _ wo161 ⟨wa158, wc159, rfl, he162⟩
  refine ⟨_, _, [.box bk22 [.slice wa158 (List.length ((dput 1 0 32 (([] ++ beN 2 (UInt16.toNat vv)) ++ ar) b) ++ beN 2 (UInt16.toNat x19))) wc159, .bool (false || dbad 1 0 32 (List.length b))] 126, .vec wa158 wc159 1 (bys ((dput 1 0 32 (([] ++ beN 2 (UInt16.toNat vv)) ++ ar) b) ++ beN 2 (UInt16.toNat x19))) 5, .box bk1 (([uv16 vv] : List Value) ++ ((bys ar) ++ ([.slice ab (List.length b) cb, .slice an (List.length ns) cn, .slice al (List.length xs) cl] : List Value))) 75], rfl, he162, by kernel_rfl, fun ac164 En165 Hv166 => ?_⟩
  refine f_e ?_
  refine then_normal ?_
  refine wp_seq ?_
  refine region_from ?_
  refine d_k [1,2,3,36,39] [] 4 En165 fun ac167 En168 => ?_
  refine f_o ?_
  refine m_l 0 En168 Hv166 fun ac169 En170 => ?_
  refine f_o ?_
  refine op_lit (d := some 41) (t := 23) (T := 5) (m := 1) (parts := #[(0, .int .u8 0)]) (xs := bys [(0 : UInt8)]) (sz := 1) En170 (by kernel_rfl) (by kernel_rfl) rfl (by decide) Hv166 ?_
  intro ac172 wo173 bk171 En174 Hv175
  refine f_o ?_
  refine op_append (d := some 42) (t := 23) (tx := 23) (ty := 23) (k := 1) (p := List.length ((dput 1 0 32 (([] ++ beN 2 (UInt16.toNat vv)) ++ ar) b) ++ beN 2 (UInt16.toNat x19))) (m := 1) (x := .slice (some ⟨bk171, 0, none⟩) 1 1) (bytes := 1) En174 (by kernel_rfl) Hv175 rfl (bys_len _) (Reads.src (size := 1) (tx := 23) (e' := 5) (by kernel_rfl) (Hv175.heap.reads (k := 3) rfl) rfl (fun e => by cases e) (bys_one _)) (by kernel_rfl) (z := .int .u8 0) (by kernel_rfl) rfl (by decide) (by first | omega | (simp [beN_len]; done) | (simp [beN_len]; omega)) (by unfold maxLen; first | omega | (simp [beN_len]; done) | (simp [beN_len]; omega)) ?_
  intro ac180 wo181 ao176 cp177 En182 Hv183 hnz _
  clear hnz
  rw [← bys_append] at Hv183
  have ehz178 : (List.length ((dput 1 0 32 (([] ++ beN 2 (UInt16.toNat vv)) ++ ar) b) ++ beN 2 (UInt16.toNat x19))) + 1 = List.length (((dput 1 0 32 (([] ++ beN 2 (UInt16.toNat vv)) ++ ar) b) ++ beN 2 (UInt16.toNat x19)) ++ [(0 : UInt8)]) := (by first | (simp; done) | (simp; omega) | omega)
  rw [ehz178] at En182
  refine d_k [1,2,3,42,44] [] 9 En182 fun ac184 En185 => ?_
  refine f_o ?_
  refine m_s 0 [.box bk22 [.slice ao176 (List.length (((dput 1 0 32 (([] ++ beN 2 (UInt16.toNat vv)) ++ ar) b) ++ beN 2 (UInt16.toNat x19)) ++ [(0 : UInt8)])) cp177, .bool (false || dbad 1 0 32 (List.length b))] 126, .vec ao176 cp177 1 (bys (((dput 1 0 32 (([] ++ beN 2 (UInt16.toNat vv)) ++ ar) b) ++ beN 2 (UInt16.toNat x19)) ++ [(0 : UInt8)])) 5, .box bk1 (([uv16 vv] : List Value) ++ ((bys ar) ++ ([.slice ab (List.length b) cb, .slice an (List.length ns) cn, .slice al (List.length xs) cl] : List Value))) 75, .vec (some ⟨bk171, 0, none⟩) 1 1 (bys [(0 : UInt8)]) 5] En185 Hv183 fun ac186 wo187 En188 Hv189 => ?_
  refine f_e ?_
  refine then_normal ?_
  refine wp_seq ?_
  refine region_from ?_
  refine d_k [1,2,3,45,46] [] 2 En188 fun ac190 En191 => ?_
  refine f_o ?_
  refine m_v 2 35 (.slice al (List.length xs) cl) En191 Hv189 rfl (seg_skip (n := 1) (j := 34) rfl (seg_skip (n := 32) (j := 2) (bys_lenh har) rfl)) fun ac192 En193 => ?_
  refine f_o ?_
  refine c_l [0,1] (M := [.box bk22 [.slice ao176 (List.length (((dput 1 0 32 (([] ++ beN 2 (UInt16.toNat vv)) ++ ar) b) ++ beN 2 (UInt16.toNat x19)) ++ [(0 : UInt8)])) cp177, .bool (false || dbad 1 0 32 (List.length b))] 126, .vec ao176 cp177 1 (bys (((dput 1 0 32 (([] ++ beN 2 (UInt16.toNat vv)) ++ ar) b) ++ beN 2 (UInt16.toNat x19)) ++ [(0 : UInt8)])) 5]) En193 Hv189 (fun hM196 => dwexts_go _ bk22 ao176 cp177 (((dput 1 0 32 (([] ++ beN 2 (UInt16.toNat vv)) ++ ar) b) ++ beN 2 (UInt16.toNat x19)) ++ [(0 : UInt8)]) (false || dbad 1 0 32 (List.length b)) al cl xs (il.go Hv189 [0, 1] (by kernel_rfl) (fun _ h => ⟨h.1, (InB.ev h.2.1 Hv189).pick [0, 1] (by kernel_rfl), h.2.2⟩)) (by first | omega | (simp only [List.length_nil, List.length_append, beN_len]; omega) | (simp only [u16F, beN_len, List.length_nil, List.length_append]; omega) | (simp only [wput_len, beN_len, List.length_nil, List.length_append]; omega) | (simp [wput_len, beN_len]; done) | (simp [wput_len, beN_len]; omega)) hM196) ?_
  rintro _ wo197 ⟨wa194, wc195, rfl, he198⟩
  refine ⟨_, _, [.box bk22 [.slice wa194 (List.length ((wdexF (((dput 1 0 32 (([] ++ beN 2 (UInt16.toNat vv)) ++ ar) b) ++ beN 2 (UInt16.toNat x19)) ++ [(0 : UInt8)], false || dbad 1 0 32 (List.length b)) (List.map (fun y : RExt => (y.1, y.2.1.l)) xs)).1)) wc195, .bool ((wdexF (((dput 1 0 32 (([] ++ beN 2 (UInt16.toNat vv)) ++ ar) b) ++ beN 2 (UInt16.toNat x19)) ++ [(0 : UInt8)], false || dbad 1 0 32 (List.length b)) (List.map (fun y : RExt => (y.1, y.2.1.l)) xs)).2)] 126, .vec wa194 wc195 1 (bys ((wdexF (((dput 1 0 32 (([] ++ beN 2 (UInt16.toNat vv)) ++ ar) b) ++ beN 2 (UInt16.toNat x19)) ++ [(0 : UInt8)], false || dbad 1 0 32 (List.length b)) (List.map (fun y : RExt => (y.1, y.2.1.l)) xs)).1)) 5, .box bk1 (([uv16 vv] : List Value) ++ ((bys ar) ++ ([.slice ab (List.length b) cb, .slice an (List.length ns) cn, .slice al (List.length xs) cl] : List Value))) 75, .vec (some ⟨bk171, 0, none⟩) 1 1 (bys [(0 : UInt8)]) 5], rfl, he198, by kernel_rfl, fun ac200 En201 Hv202 => ?_⟩
  refine f_e ?_
  refine then_normal ?_
  refine wp_seq ?_
  refine region_from ?_
  refine d_k [1,2,3,49] [] 1 En201 fun ac203 En204 => ?_
  refine f_o ?_
  refine c_l [0,1] (M := [.box bk22 [.slice wa194 (List.length ((wdexF (((dput 1 0 32 (([] ++ beN 2 (UInt16.toNat vv)) ++ ar) b) ++ beN 2 (UInt16.toNat x19)) ++ [(0 : UInt8)], false || dbad 1 0 32 (List.length b)) (List.map (fun y : RExt => (y.1, y.2.1.l)) xs)).1)) wc195, .bool ((wdexF (((dput 1 0 32 (([] ++ beN 2 (UInt16.toNat vv)) ++ ar) b) ++ beN 2 (UInt16.toNat x19)) ++ [(0 : UInt8)], false || dbad 1 0 32 (List.length b)) (List.map (fun y : RExt => (y.1, y.2.1.l)) xs)).2)] 126, .vec wa194 wc195 1 (bys ((wdexF (((dput 1 0 32 (([] ++ beN 2 (UInt16.toNat vv)) ++ ar) b) ++ beN 2 (UInt16.toNat x19)) ++ [(0 : UInt8)], false || dbad 1 0 32 (List.length b)) (List.map (fun y : RExt => (y.1, y.2.1.l)) xs)).1)) 5]) En204 Hv202 (fun hM207 => ddone_go _ bk22 wa194 wc195 ((wdexF (((dput 1 0 32 (([] ++ beN 2 (UInt16.toNat vv)) ++ ar) b) ++ beN 2 (UInt16.toNat x19)) ++ [(0 : UInt8)], false || dbad 1 0 32 (List.length b)) (List.map (fun y : RExt => (y.1, y.2.1.l)) xs)).1) ((wdexF (((dput 1 0 32 (([] ++ beN 2 (UInt16.toNat vv)) ++ ar) b) ++ beN 2 (UInt16.toNat x19)) ++ [(0 : UInt8)], false || dbad 1 0 32 (List.length b)) (List.map (fun y : RExt => (y.1, y.2.1.l)) xs)).2) hM207) ?_
  rintro _ wo208 ⟨da205, dc206, rfl, he209⟩
  refine ⟨_, _, [.vec da205 dc206 1 (bys (doneL ((wdexF (((dput 1 0 32 (([] ++ beN 2 (UInt16.toNat vv)) ++ ar) b) ++ beN 2 (UInt16.toNat x19)) ++ [(0 : UInt8)], false || dbad 1 0 32 (List.length b)) (List.map (fun y : RExt => (y.1, y.2.1.l)) xs)).2) ((wdexF (((dput 1 0 32 (([] ++ beN 2 (UInt16.toNat vv)) ++ ar) b) ++ beN 2 (UInt16.toNat x19)) ++ [(0 : UInt8)], false || dbad 1 0 32 (List.length b)) (List.map (fun y : RExt => (y.1, y.2.1.l)) xs)).1))) 5, .box bk1 (([uv16 vv] : List Value) ++ ((bys ar) ++ ([.slice ab (List.length b) cb, .slice an (List.length ns) cn, .slice al (List.length xs) cl] : List Value))) 75, .vec (some ⟨bk171, 0, none⟩) 1 1 (bys [(0 : UInt8)]) 5], rfl, he209, by kernel_rfl, fun ac211 En212 Hv213 => ?_⟩
  refine d_e [1,2,3] [] En212 fun ac214 En215 => ?_
  refine then_normal ?_
  refine wp_ret ?_
  refine d_ret1 (t := 2) (v := .slice da205 (List.length (doneL ((wdexF (((dput 1 0 32 (([] ++ beN 2 (UInt16.toNat vv)) ++ ar) b) ++ beN 2 (UInt16.toNat x19)) ++ [(0 : UInt8)], false || dbad 1 0 32 (List.length b)) (List.map (fun y : RExt => (y.1, y.2.1.l)) xs)).2) ((wdexF (((dput 1 0 32 (([] ++ beN 2 (UInt16.toNat vv)) ++ ar) b) ++ beN 2 (UInt16.toNat x19)) ++ [(0 : UInt8)], false || dbad 1 0 32 (List.length b)) (List.map (fun y : RExt => (y.1, y.2.1.l)) xs)).1))) dc206) En215 (by kernel_rfl) (by kernel_rfl) ?_
  rw [dsrv_y (f := (fun y : RU16 => y)) hn1 hx18]
  exact ⟨da205, dc206, rfl, Hv213.pk [0]⟩

end Go.Proofs.Ytofecellbfhnjaa

/- Layer 17: tickets, certificates are compared. -/

namespace Go.Proofs.Ytofecellbfhnjaa
open Go.Dbr
set_option maxRecDepth 100000
set_option maxHeartbeats 2000000
set_option linter.unusedVariables false
set_option linter.unusedSimpArgs false

theorem tup5 {α β γ δ ε : Type} [BEq α] [BEq β] [BEq γ] [BEq δ] [BEq ε] [LawfulBEq α] [LawfulBEq β] [LawfulBEq γ] [LawfulBEq δ] [LawfulBEq ε] {a a' : α} {b b' : β} {c c' : γ} {d d' : δ} {x y : ε} (h1 : a = a') (h2 : b = b') (h3 : c = c') (h4 : d = d') : (x == y) = ((a, b, c, d, x) == (a', b', c', d', y)) := by
  subst h1 h2 h3 h4
  rw [Bool.eq_iff_iff, beq_iff_eq, beq_iff_eq]
  exact ⟨fun h => by rw [h], fun h => by simpa using h⟩
theorem tup_no {α : Type} [BEq α] [LawfulBEq α] {a b : α} (h : ¬ a = b) : false = (a == b) := (beq_false_of_ne h).symm
end Go.Proofs.Ytofecellbfhnjaa
