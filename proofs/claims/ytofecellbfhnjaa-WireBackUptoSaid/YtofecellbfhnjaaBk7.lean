import Derived.Test.YtofecellbfhnjaaBk6
/- Layer 17: parts are written by the program, of each kind. -/


namespace Go.Proofs.Ytofecellbfhnjaa
open Go.Dbr
set_option maxRecDepth 100000
set_option maxHeartbeats 2000000
set_option linter.unusedVariables false
set_option linter.unusedSimpArgs false

def u16F (p : WS) (v : UInt16) : WS := (p.1 ++ beN 2 v.toNat, p.2)
def k1F (p : WS) (x : PK) : WS := (wput 2 p.1 x.1 ++ beN 4 x.2.1.toNat, wbad 2 1 65535 x.1.length p.2)
def k2F (p : WS) (x : PK) : WS := (wput 1 p.1 x.2.2, wbad 1 32 255 x.2.2.length p.2)
/-- whatever is written of the first ones is no more than a slice may hold -/
def allB {β : Type} (F : WS → β → WS) (ps : List β) : Prop := ∀ i, (allM F (List.take i ps)).1.length ≤ 16777216
theorem allB_all {β : Type} {F : WS → β → WS} {ps : List β} (h : allB F ps) : (allM F ps).1.length ≤ 16777216 := by
  have := h ps.length
  rwa [List.take_length] at this
theorem u16_64 (v : UInt16) : v.toUInt64.toNat = v.toNat := by simp
theorem u32_64 (v : UInt32) : v.toUInt64.toNat = v.toNat := by simp

theorem wu16_go (w : World) (bw : Nat) (a : Option Addr) (c : Nat) (l : Bs) (bad : Bool) (v : UInt16) (hb : List.length l + 2 ≤ 200000000000000) (hH : Heap w [.box bw [.slice a (List.length l) c, .bool bad] 115, .vec a c 1 (bys l) 5]) : Calls Try.prog 113 #[pt bw, uv16 v] w fun e w' => ∃ a' c', e = .returned (.tuple #[]) ∧ Ev w [.box bw [.slice a (List.length l) c, .bool bad] 115, .vec a c 1 (bys l) 5] w' [.box bw [.slice a' (List.length ((u16F (l, bad) v).1)) c', .bool ((u16F (l, bad) v).2)] 115, .vec a' c' 1 (bys ((u16F (l, bad) v).1)) 5] := by
 refine d_0 [(0, pt bw), (1, uv16 v)] 8 Go.Proofs.Try.func113 Go.Proofs.Try.ntmps113 (hH) fun act0 En0 Hv0 => ?_
 refine region_from ?_
 refine d_k [4,6] [(2, g_i .u64 (Go.Dbr.u16_to_u64 (x := v) rfl))] 3 En0 fun ac1 En2 => ?_
 refine f_o ?_
 refine c_l [0,1] (M := [.box bw [.slice a (List.length l) c, .bool bad] 115, .vec a c 1 (bys l) 5]) En2 Hv0 (fun hM5 => wnum_go _ bw a c l bad 2 (by omega) (UInt16.toUInt64 v) (by first | omega | (simp; omega)) hM5) ?_
 rintro _ wo6 ⟨wa3, wc4, rfl, he7⟩
 refine ⟨_, _, [.box bw [.slice wa3 (List.length (l ++ beN 2 (UInt64.toNat (UInt16.toUInt64 v)))) wc4, .bool bad] 115, .vec wa3 wc4 1 (bys (l ++ beN 2 (UInt64.toNat (UInt16.toUInt64 v)))) 5], rfl, he7, by kernel_rfl, fun ac9 En10 Hv11 => ?_⟩
 refine f_e ?_
 refine d_end0 En10 (by kernel_rfl) ?_
 rw [u16_64] at Hv11
 exact ⟨wa3, wc4, rfl, Hv11.pk [0, 1]⟩

theorem wpsk1_go (w : World) (bw : Nat) (a : Option Addr) (c : Nat) (l : Bs) (bad : Bool) (at1 : Option Addr) (ct : Nat) (t : Bs) (it : InB w [.box bw [.slice a (List.length l) c, .bool bad] 115, .vec a c 1 (bys l) 5] at1 ct t) (g : UInt32) (ab : Option Addr) (cb : Nat) (b : Bs) (ib : InB w [.box bw [.slice a (List.length l) c, .bool bad] 115, .vec a c 1 (bys l) 5] ab cb b) (hb : List.length l + 6 + List.length t ≤ 200000000000000) (hH : Heap w [.box bw [.slice a (List.length l) c, .bool bad] 115, .vec a c 1 (bys l) 5]) : Calls Try.prog 125 #[pt bw, .agg #[.slice at1 (List.length t) ct, uv32 g, .slice ab (List.length b) cb]] w fun e w' => ∃ a' c', e = .returned (.tuple #[]) ∧ Ev w [.box bw [.slice a (List.length l) c, .bool bad] 115, .vec a c 1 (bys l) 5] w' [.box bw [.slice a' (List.length ((k1F (l, bad) (t, g, b)).1)) c', .bool ((k1F (l, bad) (t, g, b)).2)] 115, .vec a' c' 1 (bys ((k1F (l, bad) (t, g, b)).1)) 5] := by
 have hbs := it.small
 have hl1 := wput_len 2 l t
 refine d_0 [(0, pt bw), (1, .agg #[.slice at1 (List.length t) ct, uv32 g, .slice ab (List.length b) cb])] 13 Go.Proofs.Try.func125 Go.Proofs.Try.ntmps125 (hH) fun act0 En0 Hv0 => ?_
 refine wp_seq ?_
 refine region_from ?_
 refine f_o ?_
 refine m_m 140 [.slice at1 (List.length t) ct, uv32 g, .slice ab (List.length b) cb] En0 Hv0 fun ac2 wo3 bk1 En4 Hv5 => ?_
 refine f_e ?_
 refine then_normal ?_
 refine wp_seq ?_
 refine region_from ?_
 refine d_k [0,3,4,5] [] 2 En4 fun ac6 En7 => ?_
 refine f_o ?_
 refine m_l 2 En7 Hv5 fun ac8 En9 => ?_
 refine f_o ?_
 refine c_l [0,1] (M := [.box bw [.slice a (List.length l) c, .bool bad] 115, .vec a c 1 (bys l) 5]) En9 Hv5 (fun hM12 => wlist_go _ bw a c l bad 2 (by omega) 1 65535 (by omega) (by omega) at1 ct t ((it.ev Hv5).pick [0, 1] (by kernel_rfl)) (by first | omega | (simp [wput_len, beN_len]; done) | (simp [wput_len, beN_len]; omega)) hM12) ?_
 rintro _ wo13 ⟨wa10, wc11, rfl, he14⟩
 refine ⟨_, _, [.box bw [.slice wa10 (List.length (wput 2 l t)) wc11, .bool (wbad 2 1 65535 (List.length t) bad)] 115, .vec wa10 wc11 1 (bys (wput 2 l t)) 5, .box bk1 [.slice at1 (List.length t) ct, uv32 g, .slice ab (List.length b) cb] 140], rfl, he14, by kernel_rfl, fun ac16 En17 Hv18 => ?_⟩
 refine f_e ?_
 refine then_normal ?_
 refine region_from ?_
 refine d_k [0,3,8,9] [] 2 En17 fun ac19 En20 => ?_
 refine f_o ?_
 refine m_l 2 En20 Hv18 fun ac21 En22 => ?_
 refine d_k [0,3,8,11] [(3, g_i .u64 (Go.Dbr.u32_to_u64 (x := g) rfl))] 4 En22 fun ac23 En24 => ?_
 refine f_o ?_
 refine c_l [0,1] (M := [.box bw [.slice wa10 (List.length (wput 2 l t)) wc11, .bool (wbad 2 1 65535 (List.length t) bad)] 115, .vec wa10 wc11 1 (bys (wput 2 l t)) 5]) En24 Hv18 (fun hM27 => wnum_go _ bw wa10 wc11 (wput 2 l t) (wbad 2 1 65535 (List.length t) bad) 4 (by omega) (UInt32.toUInt64 g) (by first | omega | (simp; omega)) hM27) ?_
 rintro _ wo28 ⟨wa25, wc26, rfl, he29⟩
 refine ⟨_, _, [.box bw [.slice wa25 (List.length ((wput 2 l t) ++ beN 4 (UInt64.toNat (UInt32.toUInt64 g)))) wc26, .bool (wbad 2 1 65535 (List.length t) bad)] 115, .vec wa25 wc26 1 (bys ((wput 2 l t) ++ beN 4 (UInt64.toNat (UInt32.toUInt64 g)))) 5, .box bk1 [.slice at1 (List.length t) ct, uv32 g, .slice ab (List.length b) cb] 140], rfl, he29, by kernel_rfl, fun ac31 En32 Hv33 => ?_⟩
 refine f_e ?_
 refine d_end0 En32 (by kernel_rfl) ?_
 rw [u32_64] at Hv33
 exact ⟨wa25, wc26, rfl, Hv33.pk [0, 1]⟩

theorem wpsk2_go (w : World) (bw : Nat) (a : Option Addr) (c : Nat) (l : Bs) (bad : Bool) (at1 : Option Addr) (ct : Nat) (t : Bs) (it : InB w [.box bw [.slice a (List.length l) c, .bool bad] 115, .vec a c 1 (bys l) 5] at1 ct t) (g : UInt32) (ab : Option Addr) (cb : Nat) (b : Bs) (ib : InB w [.box bw [.slice a (List.length l) c, .bool bad] 115, .vec a c 1 (bys l) 5] ab cb b) (hb : List.length l + 1 + List.length b ≤ 200000000000000) (hH : Heap w [.box bw [.slice a (List.length l) c, .bool bad] 115, .vec a c 1 (bys l) 5]) : Calls Try.prog 127 #[pt bw, .agg #[.slice at1 (List.length t) ct, uv32 g, .slice ab (List.length b) cb]] w fun e w' => ∃ a' c', e = .returned (.tuple #[]) ∧ Ev w [.box bw [.slice a (List.length l) c, .bool bad] 115, .vec a c 1 (bys l) 5] w' [.box bw [.slice a' (List.length ((k2F (l, bad) (t, g, b)).1)) c', .bool ((k2F (l, bad) (t, g, b)).2)] 115, .vec a' c' 1 (bys ((k2F (l, bad) (t, g, b)).1)) 5] := by
 have hbs := ib.small
 refine d_0 [(0, pt bw), (1, .agg #[.slice at1 (List.length t) ct, uv32 g, .slice ab (List.length b) cb])] 8 Go.Proofs.Try.func127 Go.Proofs.Try.ntmps127 (hH) fun act0 En0 Hv0 => ?_
 refine wp_seq ?_
 refine region_from ?_
 refine f_o ?_
 refine m_m 140 [.slice at1 (List.length t) ct, uv32 g, .slice ab (List.length b) cb] En0 Hv0 fun ac2 wo3 bk1 En4 Hv5 => ?_
 refine f_e ?_
 refine then_normal ?_
 refine region_from ?_
 refine d_k [4,5] [] 2 En4 fun ac6 En7 => ?_
 refine f_o ?_
 refine m_l 2 En7 Hv5 fun ac8 En9 => ?_
 refine f_o ?_
 refine c_l [0,1] (M := [.box bw [.slice a (List.length l) c, .bool bad] 115, .vec a c 1 (bys l) 5]) En9 Hv5 (fun hM12 => wlist_go _ bw a c l bad 1 (by omega) 32 255 (by omega) (by omega) ab cb b ((ib.ev Hv5).pick [0, 1] (by kernel_rfl)) (by first | omega | (simp [wput_len, beN_len]; done) | (simp [wput_len, beN_len]; omega)) hM12) ?_
 rintro _ wo13 ⟨wa10, wc11, rfl, he14⟩
 refine ⟨_, _, [.box bw [.slice wa10 (List.length (wput 1 l b)) wc11, .bool (wbad 1 32 255 (List.length b) bad)] 115, .vec wa10 wc11 1 (bys (wput 1 l b)) 5, .box bk1 [.slice at1 (List.length t) ct, uv32 g, .slice ab (List.length b) cb] 140], rfl, he14, by kernel_rfl, fun ac16 En17 Hv18 => ?_⟩
 refine f_e ?_
 refine d_end0 En17 (by kernel_rfl) ?_
 exact ⟨wa10, wc11, rfl, Hv18.pk [0, 1]⟩

end Go.Proofs.Ytofecellbfhnjaa

/- Layer 17: lists of parts are written by the program. -/

namespace Go.Proofs.Ytofecellbfhnjaa
open Go.Dbr
set_option maxRecDepth 100000
set_option maxHeartbeats 2000000
set_option linter.unusedVariables false
set_option linter.unusedSimpArgs false

theorem all_u16 (w : World) (bw : Nat) (a : Option Addr) (c : Nat) (l : Bs) (bad : Bool) (n : Nat) (hn : n ≤ 4) (x : Nat) (hx : x ≤ 4294967295) (al : Option Addr) (cl : Nat) (xs : List RU16) (il : InS fU16 2 (fun y : RU16 => True) w [.box bw [.slice a (List.length l) c, .bool bad] 115, .vec a c 1 (bys l) 5] al cl xs) (hfb : ∀ i, i ≤ List.length xs → List.length (allM u16F (List.take i (List.map (fun y : RU16 => y) xs))).1 ≤ 140737489403904) (hb : List.length l + n + List.length (allM u16F (List.map (fun y : RU16 => y) xs)).1 ≤ 200000000000000) (hH : Heap w [.box bw [.slice a (List.length l) c, .bool bad] 115, .vec a c 1 (bys l) 5]) : Calls Try.prog 112 #[pt bw, ni n, ni x, .slice al (List.length xs) cl, .func (.func 113) #[] #[]] w fun e w' => ∃ a' c', e = .returned (.tuple #[]) ∧ Ev w [.box bw [.slice a (List.length l) c, .bool bad] 115, .vec a c 1 (bys l) 5] w' [.box bw [.slice a' (List.length (wput n l (allM u16F (List.map (fun y : RU16 => y) xs)).1)) c', .bool (wbad n x 16777215 (List.length (allM u16F (List.map (fun y : RU16 => y) xs)).1) (bad || (allM u16F (List.map (fun y : RU16 => y) xs)).2))] 115, .vec a' c' 1 (bys (wput n l (allM u16F (List.map (fun y : RU16 => y) xs)).1)) 5] := by
 have hxs := il.small
 have hxc := il.cap
 refine d_0 [(0, pt bw), (1, ni n), (2, ni x), (3, .slice al (List.length xs) cl), (4, .func (.func 113) #[] #[])] 47 Go.Proofs.Try.func112 Go.Proofs.Try.ntmps112 (hH) fun act0 En0 Hv0 => ?_
 refine wp_seq ?_
 refine region_from ?_
 refine d_k [0,1,2,3,4,13] [] 1 En0 fun ac1 En2 => ?_
 refine f_o ?_
 refine m_m 115 [.slice none 0 0, .bool false] En2 Hv0 fun ac4 wo5 bk3 En6 Hv7 => ?_
 refine d_e [0,1,2,3,4,10] [] En6 fun ac8 En9 => ?_
 refine then_normal ?_
 refine wp_seq ?_
 refine wp_seq ?_
 refine d_r [0,1,2,4,10,15,16,17] [] En9 fun ac10 En11 => ?_
 refine then_normal ?_
 refine wp_block ?_
 have Hv12 : Ev w [.box bw [.slice a (List.length l) c, .bool bad] 115, .vec a c 1 (bys l) 5] wo5 [.box bw [.slice a (List.length l) c, .bool bad] 115, .vec a c 1 (bys l) 5, .box bk3 [.slice none 0 0, .bool false] 115, .vec none 0 1 (bys []) 5] := Ev.nil (sz := 1) (T := 5) Hv7
 refine loop_m (fun ms13 ac wo => ∃ (i : Nat) (wa : Option Addr) (wc : Nat) (m : Bs) (bd : Bool), ms13 = (List.length xs + 1 - i : Nat) ∧ Env ac 47 [(0, pt bw), (1, ni n), (2, ni x), (4, .func (.func 113) #[] #[]), (10, pt bk3), (15, .slice al (List.length xs) cl), (16, .int .i64 ((List.length xs : Nat) : Int)), (17, ni i)] ∧ Ev w [.box bw [.slice a (List.length l) c, .bool bad] 115, .vec a c 1 (bys l) 5] wo [.box bw [.slice a (List.length l) c, .bool bad] 115, .vec a c 1 (bys l) 5, .box bk3 [.slice wa (List.length m) wc, .bool bd] 115, .vec wa wc 1 (bys m) 5] ∧ ((m, bd) = allM u16F (List.take i (List.map (fun y : RU16 => y) xs)))) ⟨_, 0, none, 0, [], false, rfl, En11.sb, Hv12.pk [0, 1, 2, 3], rfl⟩ ?_
 rintro mm19 ac15 wo16 ⟨i, wa, wc, m, bd, rfl, En17, Hv18, hfo⟩
 refine wp_seq ?_
 refine d_r [0,1,2,4,10,15,16,17,18] [] En17 fun ac20 En21 => ?_
 refine then_normal ?_
 refine wp_seq ?_
 refine c_d (((i : Nat) : Int) < ((List.length xs : Nat) : Int)) En21 (fun hc22 => ?_) (fun hc22 => ?_)
 ·
  refine wp_skip ?_
  refine then_normal ?_
  refine wp_seq ?_
  refine wp_block ?_
  refine wp_seq ?_
  have hb25 : i < List.length xs := (by omega)
  obtain ⟨adr23, had24⟩ := some_of il.nz hb25
  have hb26 : i < List.length xs := by omega
  obtain ⟨x28, hx27⟩ : ∃ x, (xs)[i]? = some x := ⟨_, List.getElem?_eq_getElem hb26⟩
  obtain _ := il.each _ (List.mem_of_getElem? hx27)
  refine region_from ?_
  refine f_o ?_
  refine q_v (x := Instr.indexAt 32 (.slice al (List.length xs) cl) (ni i)) (v := .pointer (some (Addr.add adr23 i))) En21 (Go.Dbr.run_indexsl (e := 37) (sz := 1) (j := i) (jo := i) had24 (by kernel_rfl) (by kernel_rfl) (by omega) hb25 (Nat.mul_one _) _) fun ac29 En30 => ?_
  refine f_o ?_
  refine op_loadf (d := some 20) (t := 37) (ad := adr23) (ao := al) (ys := List.flatMap fU16 xs) (o := i) (v := uv16 x28) En30 (by kernel_rfl) rfl (il.ro.ev Hv18).reads had24 ((flat_get1 (fun _ _ => rfl) hx27).trans rfl) (by kernel_rfl) ?_
  intro ac31 En32
  refine d_e [0,1,2,4,10,12,15,16,17] [] En32 fun ac33 En34 => ?_
  refine then_normal ?_
  have hnb := hfb (i + 1) (by omega)
  rw [allM_take hx27, ← hfo] at hnb
  have hnc := hnb
  simp only [u16F, List.length_append, beN_len] at hnc
  refine region_from ?_
  refine d_k [0,1,2,4,10,15,16,17,21,22,23] [] 3 En34 fun ac35 En36 => ?_
  refine f_o ?_
  refine c_l [2,3] (M := [.box bk3 [.slice wa (List.length m) wc, .bool bd] 115, .vec wa wc 1 (bys m) 5]) En36 Hv18 (fun hM39 => wu16_go _ bk3 wa wc m bd x28 (by first | omega | (simp [wput_len, beN_len]; done) | (simp [wput_len, beN_len]; omega)) hM39) ?_
  rintro _ wo40 ⟨wa37, wc38, rfl, he41⟩
  refine ⟨_, _, [.box bk3 [.slice wa37 (List.length ((u16F (m, bd) x28).1)) wc38, .bool ((u16F (m, bd) x28).2)] 115, .vec wa37 wc38 1 (bys ((u16F (m, bd) x28).1)) 5, .box bw [.slice a (List.length l) c, .bool bad] 115, .vec a c 1 (bys l) 5], rfl, he41, by kernel_rfl, fun ac43 En44 Hv45 => ?_⟩
  refine f_e ?_
  refine block_normal ?_
  refine then_normal ?_
  refine d_r [0,1,2,4,10,15,16,17] [(0, g_n (w_a i 1))] En44 fun ac46 En47 => ?_
  refine then_normal ?_
  refine ⟨_, ⟨i + 1, wa37, wc38, ((u16F (m, bd) x28).1), ((u16F (m, bd) x28).2), rfl, En47.sb, Hv45.pk [2, 3, 0, 1], (by rw [allM_take hx27, ← hfo] <;> rfl)⟩, ?_⟩
  omega
 ·
  refine wp_exit ?_
  refine then_exit ?_
  refine then_exit ?_
  refine block_exit ?_
  refine then_normal ?_
  refine wp_seq ?_
  have hfe := allM_all (F := u16F) (f := (fun y : RU16 => y)) (xs := xs) (i := i) (by omega)
  rw [← hfo] at hfe
  refine region_cut (F := fun ac wo => ∃ (b2 : Bool), Env ac 47 [(0, pt bw), (1, ni n), (2, ni x), (4, .func (.func 113) #[] #[]), (10, pt bk3), (15, .slice al (List.length xs) cl), (16, .int .i64 ((List.length xs : Nat) : Int)), (17, ni i)] ∧ Ev w [.box bw [.slice a (List.length l) c, .bool bad] 115, .vec a c 1 (bys l) 5] wo [.box bw [.slice a (List.length l) c, .bool b2] 115, .vec a c 1 (bys l) 5, .box bk3 [.slice wa (List.length m) wc, .bool bd] 115, .vec wa wc 1 (bys m) 5] ∧ (b2 = (bad || bd))) ?_ ?_
  ·
   refine region_from ?_
   refine d_k [0,1,2,4,10,15,16,17,26,29] [] 4 En21 fun ac48 En49 => ?_
   refine f_o ?_
   refine m_l 0 En49 Hv18 fun ac50 En51 => ?_
   refine d_k [0,1,2,4,10,15,16,17,26,31] [] 6 En51 fun ac52 En53 => ?_
   rcases Bool.eq_false_or_eq_true (bad) with hb54 | hb54
   ·
    have En55 := En53.fx (t := 31) (congrArg Value.bool hb54)
    have hp56 : bad = true := hb54
    refine d_k [0,1,2,4,10,15,16,17,36,38] [] 13 En55 fun ac57 En58 => ?_
    refine f_o ?_
    refine m_s 0 [.box bw [.slice a (List.length l) c, .bool true] 115, .vec a c 1 (bys l) 5, .box bk3 [.slice wa (List.length m) wc, .bool bd] 115, .vec wa wc 1 (bys m) 5] En58 Hv18 fun ac59 wo60 En61 Hv62 => ?_
    refine f_e ?_
    exact ⟨rfl, ⟨true, En61.sb, Hv62.pk [0, 1, 2, 3], (by first | exact or_t (by assumption) | exact or_f (by assumption))⟩⟩
   ·
    have En63 := En53.fx (t := 31) (congrArg Value.bool hb54)
    have hp64 : ¬ (bad = true) := Bool.eq_false_iff.1 hb54
    refine d_k [0,1,2,4,10,15,16,17,26,31,34] [] 9 En63 fun ac65 En66 => ?_
    refine f_o ?_
    refine m_l 2 En66 Hv18 fun ac67 En68 => ?_
    refine d_k [0,1,2,4,10,15,16,17,36,38] [] 13 En68 fun ac69 En70 => ?_
    refine f_o ?_
    refine m_s 0 [.box bw [.slice a (List.length l) c, .bool bd] 115, .vec a c 1 (bys l) 5, .box bk3 [.slice wa (List.length m) wc, .bool bd] 115, .vec wa wc 1 (bys m) 5] En70 Hv18 fun ac71 wo72 En73 Hv74 => ?_
    refine f_e ?_
    exact ⟨rfl, ⟨bd, En73.sb, Hv74.pk [0, 1, 2, 3], (by first | exact or_t (by assumption) | exact or_f (by assumption))⟩⟩
  ·
   rintro ac75 wo76 ⟨b2, En77, Hv78, hb2⟩
   refine then_normal ?_
   have hml := hfb (List.length xs) (Nat.le_refl _)
   rw [List.take_of_length_le (by rw [List.length_map]; exact Nat.le_refl _), ← hfe] at hml
   rw [← hfe] at hb
   refine region_from ?_
   refine d_k [0,4,10,15,16,17,39,40,41,44] [] 6 En77 fun ac79 En80 => ?_
   refine f_o ?_
   refine m_l 2 En80 Hv78 fun ac81 En82 => ?_
   refine f_o ?_
   refine c_l [0,1] (M := [.box bw [.slice a (List.length l) c, .bool b2] 115, .vec a c 1 (bys l) 5]) En82 Hv78 (fun hM85 => wlist_go _ bw a c l b2 n (by omega) x 16777215 (by omega) (by omega) wa wc m (bys_in Hv78.heap (k := 3) rfl [0, 1] (by kernel_rfl) rfl (by first | omega | (simp; done) | (simp; omega))) (by first | exact hb | omega) hM85) ?_
   rintro _ wo86 ⟨wa83, wc84, rfl, he87⟩
   refine ⟨_, _, [.box bw [.slice wa83 (List.length (wput n l m)) wc84, .bool (wbad n x 16777215 (List.length m) b2)] 115, .vec wa83 wc84 1 (bys (wput n l m)) 5, .box bk3 [.slice wa (List.length m) wc, .bool bd] 115, .vec wa wc 1 (bys m) 5], rfl, he87, by kernel_rfl, fun ac89 En90 Hv91 => ?_⟩
   refine f_e ?_
   refine d_end0 En90 (by kernel_rfl) ?_
   subst hb2
   rw [← hfe]
   exact ⟨wa83, wc84, rfl, Hv91.pk [0, 1]⟩

theorem all_psk1 (w : World) (bw : Nat) (a : Option Addr) (c : Nat) (l : Bs) (bad : Bool) (n : Nat) (hn : n ≤ 4) (x : Nat) (hx : x ≤ 4294967295) (al : Option Addr) (cl : Nat) (xs : List RPsk) (il : InS fPsk 56 (fun y : RPsk => (InB w [.box bw [.slice a (List.length l) c, .bool bad] 115, .vec a c 1 (bys l) 5] y.1.a y.1.c y.1.l ∧ (True ∧ (InB w [.box bw [.slice a (List.length l) c, .bool bad] 115, .vec a c 1 (bys l) 5] y.2.2.1.a y.2.2.1.c y.2.2.1.l ∧ (True))))) w [.box bw [.slice a (List.length l) c, .bool bad] 115, .vec a c 1 (bys l) 5] al cl xs) (hfb : ∀ i, i ≤ List.length xs → List.length (allM k1F (List.take i (List.map puPsk xs))).1 ≤ 140737489403904) (hb : List.length l + n + List.length (allM k1F (List.map puPsk xs)).1 ≤ 200000000000000) (hH : Heap w [.box bw [.slice a (List.length l) c, .bool bad] 115, .vec a c 1 (bys l) 5]) : Calls Try.prog 124 #[pt bw, ni n, ni x, .slice al (List.length xs) cl, .func (.func 125) #[] #[]] w fun e w' => ∃ a' c', e = .returned (.tuple #[]) ∧ Ev w [.box bw [.slice a (List.length l) c, .bool bad] 115, .vec a c 1 (bys l) 5] w' [.box bw [.slice a' (List.length (wput n l (allM k1F (List.map puPsk xs)).1)) c', .bool (wbad n x 16777215 (List.length (allM k1F (List.map puPsk xs)).1) (bad || (allM k1F (List.map puPsk xs)).2))] 115, .vec a' c' 1 (bys (wput n l (allM k1F (List.map puPsk xs)).1)) 5] := by
 have hxs := il.small
 have hxc := il.cap
 refine d_0 [(0, pt bw), (1, ni n), (2, ni x), (3, .slice al (List.length xs) cl), (4, .func (.func 125) #[] #[])] 47 Go.Proofs.Try.func124 Go.Proofs.Try.ntmps124 (hH) fun act0 En0 Hv0 => ?_
 refine wp_seq ?_
 refine region_from ?_
 refine d_k [0,1,2,3,4,13] [] 1 En0 fun ac1 En2 => ?_
 refine f_o ?_
 refine m_m 115 [.slice none 0 0, .bool false] En2 Hv0 fun ac4 wo5 bk3 En6 Hv7 => ?_
 refine d_e [0,1,2,3,4,10] [] En6 fun ac8 En9 => ?_
 refine then_normal ?_
 refine wp_seq ?_
 refine wp_seq ?_
 refine d_r [0,1,2,4,10,15,16,17] [] En9 fun ac10 En11 => ?_
 refine then_normal ?_
 refine wp_block ?_
 have Hv12 : Ev w [.box bw [.slice a (List.length l) c, .bool bad] 115, .vec a c 1 (bys l) 5] wo5 [.box bw [.slice a (List.length l) c, .bool bad] 115, .vec a c 1 (bys l) 5, .box bk3 [.slice none 0 0, .bool false] 115, .vec none 0 1 (bys []) 5] := Ev.nil (sz := 1) (T := 5) Hv7
 refine loop_m (fun ms13 ac wo => ∃ (i : Nat) (wa : Option Addr) (wc : Nat) (m : Bs) (bd : Bool), ms13 = (List.length xs + 1 - i : Nat) ∧ Env ac 47 [(0, pt bw), (1, ni n), (2, ni x), (4, .func (.func 125) #[] #[]), (10, pt bk3), (15, .slice al (List.length xs) cl), (16, .int .i64 ((List.length xs : Nat) : Int)), (17, ni i)] ∧ Ev w [.box bw [.slice a (List.length l) c, .bool bad] 115, .vec a c 1 (bys l) 5] wo [.box bw [.slice a (List.length l) c, .bool bad] 115, .vec a c 1 (bys l) 5, .box bk3 [.slice wa (List.length m) wc, .bool bd] 115, .vec wa wc 1 (bys m) 5] ∧ ((m, bd) = allM k1F (List.take i (List.map puPsk xs)))) ⟨_, 0, none, 0, [], false, rfl, En11.sb, Hv12.pk [0, 1, 2, 3], rfl⟩ ?_
 rintro mm19 ac15 wo16 ⟨i, wa, wc, m, bd, rfl, En17, Hv18, hfo⟩
 refine wp_seq ?_
 refine d_r [0,1,2,4,10,15,16,17,18] [] En17 fun ac20 En21 => ?_
 refine then_normal ?_
 refine wp_seq ?_
 refine c_d (((i : Nat) : Int) < ((List.length xs : Nat) : Int)) En21 (fun hc22 => ?_) (fun hc22 => ?_)
 ·
  refine wp_skip ?_
  refine then_normal ?_
  refine wp_seq ?_
  refine wp_block ?_
  refine wp_seq ?_
  have hb25 : i < List.length xs := (by omega)
  obtain ⟨adr23, had24⟩ := some_of il.nz hb25
  have hb26 : i < List.length xs := by omega
  obtain ⟨⟨⟨a_x28a, c_x28a, x28a⟩, x28b, ⟨a_x28c, c_x28c, x28c⟩, _⟩, hx27⟩ : ∃ x, (xs)[i]? = some x := ⟨_, List.getElem?_eq_getElem hb26⟩
  obtain ⟨i_x28a, _, i_x28c, _⟩ := il.each _ (List.mem_of_getElem? hx27)
  replace i_x28a : InB w [.box bw [.slice a (List.length l) c, .bool bad] 115, .vec a c 1 (bys l) 5] a_x28a c_x28a x28a := i_x28a
  replace i_x28c : InB w [.box bw [.slice a (List.length l) c, .bool bad] 115, .vec a c 1 (bys l) 5] a_x28c c_x28c x28c := i_x28c
  refine region_from ?_
  refine f_o ?_
  refine q_v (x := Instr.indexAt 35 (.slice al (List.length xs) cl) (ni i)) (v := .pointer (some (Addr.add adr23 (i * 3)))) En21 (Go.Dbr.run_indexsl (e := 140) (sz := 3) (j := i) (jo := i * 3) had24 (by kernel_rfl) (by kernel_rfl) (by omega) hb25 rfl _) fun ac29 En30 => ?_
  refine f_o ?_
  refine op_loadaggat (d := some 20) (t := 140) (ad := adr23) (ao := al) (ys := List.flatMap fPsk xs) (o := i * 3) (m := 3) (xs := [.slice a_x28a (List.length x28a) c_x28a, uv32 x28b, .slice a_x28c (List.length x28c) c_x28c]) En30 (by kernel_rfl) rfl (il.ro.ev Hv18).reads had24 (fun j hj => ?_) rfl (by kernel_rfl) (by kernel_rfl) ?_
  ·
   exact flat_sub (sz := 3) (off := 0) (m := 3) (fun _ _ => rfl) hx27 (by decide) rfl j hj
  intro ac31 En32
  refine f_o ?_
  refine m_z 140 [.slice none 0 0, .int .u32 0, .slice none 0 0] En32 Hv18 fun ac34 wo35 bk33 En36 Hv37 => ?_
  refine f_o ?_
  refine m_g 4 0 3 [.slice a_x28a (List.length x28a) c_x28a, uv32 x28b, .slice a_x28c (List.length x28c) c_x28c] [.slice a_x28a (List.length x28a) c_x28a, uv32 x28b, .slice a_x28c (List.length x28c) c_x28c] [.box bw [.slice a (List.length l) c, .bool bad] 115, .vec a c 1 (bys l) 5, .box bk3 [.slice wa (List.length m) wc, .bool bd] 115, .vec wa wc 1 (bys m) 5, .box bk33 [.slice a_x28a (List.length x28a) c_x28a, uv32 x28b, .slice a_x28c (List.length x28c) c_x28c] 140] En36 Hv37 rfl rfl (by simp) (one_all (by kernel_rfl)) rfl rfl fun ac38 wo39 En40 Hv41 => ?_
  refine f_e ?_
  refine then_normal ?_
  have hnb := hfb (i + 1) (by omega)
  rw [allM_take hx27, ← hfo] at hnb
  have hnc := hnb
  simp only [k1F, puPsk, wput_len, List.length_append, beN_len] at hnc
  refine region_from ?_
  refine d_k [0,1,2,4,10,12,15,16,17,21,22] [] 2 En40 fun ac42 En43 => ?_
  refine f_o ?_
  refine m_a 4 0 3 [.slice a_x28a (List.length x28a) c_x28a, uv32 x28b, .slice a_x28c (List.length x28c) c_x28c] En43 Hv41 rfl rfl rfl fun ac44 En45 => ?_
  refine f_o ?_
  refine c_l [2,3] (M := [.box bk3 [.slice wa (List.length m) wc, .bool bd] 115, .vec wa wc 1 (bys m) 5]) En45 Hv41 (fun hM48 => wpsk1_go _ bk3 wa wc m bd a_x28a c_x28a x28a ((i_x28a.ev Hv41).pick [2, 3] (by kernel_rfl)) x28b a_x28c c_x28c x28c ((i_x28c.ev Hv41).pick [2, 3] (by kernel_rfl)) (by first | omega | (simp [wput_len, beN_len]; done) | (simp [wput_len, beN_len]; omega)) hM48) ?_
  rintro _ wo49 ⟨wa46, wc47, rfl, he50⟩
  refine ⟨_, _, [.box bk3 [.slice wa46 (List.length ((k1F (m, bd) ((x28a, x28b, x28c) : PK)).1)) wc47, .bool ((k1F (m, bd) ((x28a, x28b, x28c) : PK)).2)] 115, .vec wa46 wc47 1 (bys ((k1F (m, bd) ((x28a, x28b, x28c) : PK)).1)) 5, .box bw [.slice a (List.length l) c, .bool bad] 115, .vec a c 1 (bys l) 5, .box bk33 [.slice a_x28a (List.length x28a) c_x28a, uv32 x28b, .slice a_x28c (List.length x28c) c_x28c] 140], rfl, he50, by kernel_rfl, fun ac52 En53 Hv54 => ?_⟩
  refine f_e ?_
  refine block_normal ?_
  refine then_normal ?_
  refine d_r [0,1,2,4,10,12,15,16,17] [(0, g_n (w_a i 1))] En53 fun ac55 En56 => ?_
  refine then_normal ?_
  refine ⟨_, ⟨i + 1, wa46, wc47, ((k1F (m, bd) ((x28a, x28b, x28c) : PK)).1), ((k1F (m, bd) ((x28a, x28b, x28c) : PK)).2), rfl, En56.sb, Hv54.pk [2, 3, 0, 1], (by rw [allM_take hx27, ← hfo] <;> rfl)⟩, ?_⟩
  omega
 ·
  refine wp_exit ?_
  refine then_exit ?_
  refine then_exit ?_
  refine block_exit ?_
  refine then_normal ?_
  refine wp_seq ?_
  have hfe := allM_all (F := k1F) (f := puPsk) (xs := xs) (i := i) (by omega)
  rw [← hfo] at hfe
  refine region_cut (F := fun ac wo => ∃ (b2 : Bool), Env ac 47 [(0, pt bw), (1, ni n), (2, ni x), (4, .func (.func 125) #[] #[]), (10, pt bk3), (15, .slice al (List.length xs) cl), (16, .int .i64 ((List.length xs : Nat) : Int)), (17, ni i)] ∧ Ev w [.box bw [.slice a (List.length l) c, .bool bad] 115, .vec a c 1 (bys l) 5] wo [.box bw [.slice a (List.length l) c, .bool b2] 115, .vec a c 1 (bys l) 5, .box bk3 [.slice wa (List.length m) wc, .bool bd] 115, .vec wa wc 1 (bys m) 5] ∧ (b2 = (bad || bd))) ?_ ?_
  ·
   refine region_from ?_
   refine d_k [0,1,2,4,10,15,16,17,26,29] [] 4 En21 fun ac57 En58 => ?_
   refine f_o ?_
   refine m_l 0 En58 Hv18 fun ac59 En60 => ?_
   refine d_k [0,1,2,4,10,15,16,17,26,31] [] 6 En60 fun ac61 En62 => ?_
   rcases Bool.eq_false_or_eq_true (bad) with hb63 | hb63
   ·
    have En64 := En62.fx (t := 31) (congrArg Value.bool hb63)
    have hp65 : bad = true := hb63
    refine d_k [0,1,2,4,10,15,16,17,36,38] [] 13 En64 fun ac66 En67 => ?_
    refine f_o ?_
    refine m_s 0 [.box bw [.slice a (List.length l) c, .bool true] 115, .vec a c 1 (bys l) 5, .box bk3 [.slice wa (List.length m) wc, .bool bd] 115, .vec wa wc 1 (bys m) 5] En67 Hv18 fun ac68 wo69 En70 Hv71 => ?_
    refine f_e ?_
    exact ⟨rfl, ⟨true, En70.sb, Hv71.pk [0, 1, 2, 3], (by first | exact or_t (by assumption) | exact or_f (by assumption))⟩⟩
   ·
    have En72 := En62.fx (t := 31) (congrArg Value.bool hb63)
    have hp73 : ¬ (bad = true) := Bool.eq_false_iff.1 hb63
    refine d_k [0,1,2,4,10,15,16,17,26,31,34] [] 9 En72 fun ac74 En75 => ?_
    refine f_o ?_
    refine m_l 2 En75 Hv18 fun ac76 En77 => ?_
    refine d_k [0,1,2,4,10,15,16,17,36,38] [] 13 En77 fun ac78 En79 => ?_
    refine f_o ?_
    refine m_s 0 [.box bw [.slice a (List.length l) c, .bool bd] 115, .vec a c 1 (bys l) 5, .box bk3 [.slice wa (List.length m) wc, .bool bd] 115, .vec wa wc 1 (bys m) 5] En79 Hv18 fun ac80 wo81 En82 Hv83 => ?_
    refine f_e ?_
    exact ⟨rfl, ⟨bd, En82.sb, Hv83.pk [0, 1, 2, 3], (by first | exact or_t (by assumption) | exact or_f (by assumption))⟩⟩
  ·
   rintro ac84 wo85 ⟨b2, En86, Hv87, hb2⟩
   refine then_normal ?_
   have hml := hfb (List.length xs) (Nat.le_refl _)
   rw [List.take_of_length_le (by rw [List.length_map]; exact Nat.le_refl _), ← hfe] at hml
   rw [← hfe] at hb
   refine region_from ?_
   refine d_k [0,4,10,15,16,17,39,40,41,44] [] 6 En86 fun ac88 En89 => ?_
   refine f_o ?_
   refine m_l 2 En89 Hv87 fun ac90 En91 => ?_
   refine f_o ?_
   refine c_l [0,1] (M := [.box bw [.slice a (List.length l) c, .bool b2] 115, .vec a c 1 (bys l) 5]) En91 Hv87 (fun hM94 => wlist_go _ bw a c l b2 n (by omega) x 16777215 (by omega) (by omega) wa wc m (bys_in Hv87.heap (k := 3) rfl [0, 1] (by kernel_rfl) rfl (by first | omega | (simp; done) | (simp; omega))) (by first | exact hb | omega) hM94) ?_
   rintro _ wo95 ⟨wa92, wc93, rfl, he96⟩
   refine ⟨_, _, [.box bw [.slice wa92 (List.length (wput n l m)) wc93, .bool (wbad n x 16777215 (List.length m) b2)] 115, .vec wa92 wc93 1 (bys (wput n l m)) 5, .box bk3 [.slice wa (List.length m) wc, .bool bd] 115, .vec wa wc 1 (bys m) 5], rfl, he96, by kernel_rfl, fun ac98 En99 Hv100 => ?_⟩
   refine f_e ?_
   refine d_end0 En99 (by kernel_rfl) ?_
   subst hb2
   rw [← hfe]
   exact ⟨wa92, wc93, rfl, Hv100.pk [0, 1]⟩

theorem all_psk2 (w : World) (bw : Nat) (a : Option Addr) (c : Nat) (l : Bs) (bad : Bool) (n : Nat) (hn : n ≤ 4) (x : Nat) (hx : x ≤ 4294967295) (al : Option Addr) (cl : Nat) (xs : List RPsk) (il : InS fPsk 56 (fun y : RPsk => (InB w [.box bw [.slice a (List.length l) c, .bool bad] 115, .vec a c 1 (bys l) 5] y.1.a y.1.c y.1.l ∧ (True ∧ (InB w [.box bw [.slice a (List.length l) c, .bool bad] 115, .vec a c 1 (bys l) 5] y.2.2.1.a y.2.2.1.c y.2.2.1.l ∧ (True))))) w [.box bw [.slice a (List.length l) c, .bool bad] 115, .vec a c 1 (bys l) 5] al cl xs) (hfb : ∀ i, i ≤ List.length xs → List.length (allM k2F (List.take i (List.map puPsk xs))).1 ≤ 140737489403904) (hb : List.length l + n + List.length (allM k2F (List.map puPsk xs)).1 ≤ 200000000000000) (hH : Heap w [.box bw [.slice a (List.length l) c, .bool bad] 115, .vec a c 1 (bys l) 5]) : Calls Try.prog 124 #[pt bw, ni n, ni x, .slice al (List.length xs) cl, .func (.func 127) #[] #[]] w fun e w' => ∃ a' c', e = .returned (.tuple #[]) ∧ Ev w [.box bw [.slice a (List.length l) c, .bool bad] 115, .vec a c 1 (bys l) 5] w' [.box bw [.slice a' (List.length (wput n l (allM k2F (List.map puPsk xs)).1)) c', .bool (wbad n x 16777215 (List.length (allM k2F (List.map puPsk xs)).1) (bad || (allM k2F (List.map puPsk xs)).2))] 115, .vec a' c' 1 (bys (wput n l (allM k2F (List.map puPsk xs)).1)) 5] := by
 have hxs := il.small
 have hxc := il.cap
 refine d_0 [(0, pt bw), (1, ni n), (2, ni x), (3, .slice al (List.length xs) cl), (4, .func (.func 127) #[] #[])] 47 Go.Proofs.Try.func124 Go.Proofs.Try.ntmps124 (hH) fun act0 En0 Hv0 => ?_
 refine wp_seq ?_
 refine region_from ?_
 refine d_k [0,1,2,3,4,13] [] 1 En0 fun ac1 En2 => ?_
 refine f_o ?_
 refine m_m 115 [.slice none 0 0, .bool false] En2 Hv0 fun ac4 wo5 bk3 En6 Hv7 => ?_
 refine d_e [0,1,2,3,4,10] [] En6 fun ac8 En9 => ?_
 refine then_normal ?_
 refine wp_seq ?_
 refine wp_seq ?_
 refine d_r [0,1,2,4,10,15,16,17] [] En9 fun ac10 En11 => ?_
 refine then_normal ?_
 refine wp_block ?_
 have Hv12 : Ev w [.box bw [.slice a (List.length l) c, .bool bad] 115, .vec a c 1 (bys l) 5] wo5 [.box bw [.slice a (List.length l) c, .bool bad] 115, .vec a c 1 (bys l) 5, .box bk3 [.slice none 0 0, .bool false] 115, .vec none 0 1 (bys []) 5] := Ev.nil (sz := 1) (T := 5) Hv7
 refine loop_m (fun ms13 ac wo => ∃ (i : Nat) (wa : Option Addr) (wc : Nat) (m : Bs) (bd : Bool), ms13 = (List.length xs + 1 - i : Nat) ∧ Env ac 47 [(0, pt bw), (1, ni n), (2, ni x), (4, .func (.func 127) #[] #[]), (10, pt bk3), (15, .slice al (List.length xs) cl), (16, .int .i64 ((List.length xs : Nat) : Int)), (17, ni i)] ∧ Ev w [.box bw [.slice a (List.length l) c, .bool bad] 115, .vec a c 1 (bys l) 5] wo [.box bw [.slice a (List.length l) c, .bool bad] 115, .vec a c 1 (bys l) 5, .box bk3 [.slice wa (List.length m) wc, .bool bd] 115, .vec wa wc 1 (bys m) 5] ∧ ((m, bd) = allM k2F (List.take i (List.map puPsk xs)))) ⟨_, 0, none, 0, [], false, rfl, En11.sb, Hv12.pk [0, 1, 2, 3], rfl⟩ ?_
 rintro mm19 ac15 wo16 ⟨i, wa, wc, m, bd, rfl, En17, Hv18, hfo⟩
 refine wp_seq ?_
 refine d_r [0,1,2,4,10,15,16,17,18] [] En17 fun ac20 En21 => ?_
 refine then_normal ?_
 refine wp_seq ?_
 refine c_d (((i : Nat) : Int) < ((List.length xs : Nat) : Int)) En21 (fun hc22 => ?_) (fun hc22 => ?_)
 ·
  refine wp_skip ?_
  refine then_normal ?_
  refine wp_seq ?_
  refine wp_block ?_
  refine wp_seq ?_
  have hb25 : i < List.length xs := (by omega)
  obtain ⟨adr23, had24⟩ := some_of il.nz hb25
  have hb26 : i < List.length xs := by omega
  obtain ⟨⟨⟨a_x28a, c_x28a, x28a⟩, x28b, ⟨a_x28c, c_x28c, x28c⟩, _⟩, hx27⟩ : ∃ x, (xs)[i]? = some x := ⟨_, List.getElem?_eq_getElem hb26⟩
  obtain ⟨i_x28a, _, i_x28c, _⟩ := il.each _ (List.mem_of_getElem? hx27)
  replace i_x28a : InB w [.box bw [.slice a (List.length l) c, .bool bad] 115, .vec a c 1 (bys l) 5] a_x28a c_x28a x28a := i_x28a
  replace i_x28c : InB w [.box bw [.slice a (List.length l) c, .bool bad] 115, .vec a c 1 (bys l) 5] a_x28c c_x28c x28c := i_x28c
  refine region_from ?_
  refine f_o ?_
  refine q_v (x := Instr.indexAt 35 (.slice al (List.length xs) cl) (ni i)) (v := .pointer (some (Addr.add adr23 (i * 3)))) En21 (Go.Dbr.run_indexsl (e := 140) (sz := 3) (j := i) (jo := i * 3) had24 (by kernel_rfl) (by kernel_rfl) (by omega) hb25 rfl _) fun ac29 En30 => ?_
  refine f_o ?_
  refine op_loadaggat (d := some 20) (t := 140) (ad := adr23) (ao := al) (ys := List.flatMap fPsk xs) (o := i * 3) (m := 3) (xs := [.slice a_x28a (List.length x28a) c_x28a, uv32 x28b, .slice a_x28c (List.length x28c) c_x28c]) En30 (by kernel_rfl) rfl (il.ro.ev Hv18).reads had24 (fun j hj => ?_) rfl (by kernel_rfl) (by kernel_rfl) ?_
  ·
   exact flat_sub (sz := 3) (off := 0) (m := 3) (fun _ _ => rfl) hx27 (by decide) rfl j hj
  intro ac31 En32
  refine f_o ?_
  refine m_z 140 [.slice none 0 0, .int .u32 0, .slice none 0 0] En32 Hv18 fun ac34 wo35 bk33 En36 Hv37 => ?_
  refine f_o ?_
  refine m_g 4 0 3 [.slice a_x28a (List.length x28a) c_x28a, uv32 x28b, .slice a_x28c (List.length x28c) c_x28c] [.slice a_x28a (List.length x28a) c_x28a, uv32 x28b, .slice a_x28c (List.length x28c) c_x28c] [.box bw [.slice a (List.length l) c, .bool bad] 115, .vec a c 1 (bys l) 5, .box bk3 [.slice wa (List.length m) wc, .bool bd] 115, .vec wa wc 1 (bys m) 5, .box bk33 [.slice a_x28a (List.length x28a) c_x28a, uv32 x28b, .slice a_x28c (List.length x28c) c_x28c] 140] En36 Hv37 rfl rfl (by simp) (one_all (by kernel_rfl)) rfl rfl fun ac38 wo39 En40 Hv41 => ?_
  refine f_e ?_
  refine then_normal ?_
  have hnb := hfb (i + 1) (by omega)
  rw [allM_take hx27, ← hfo] at hnb
  have hnc := hnb
  simp only [k2F, puPsk, wput_len] at hnc
  refine region_from ?_
  refine d_k [0,1,2,4,10,12,15,16,17,21,22] [] 2 En40 fun ac42 En43 => ?_
  refine f_o ?_
  refine m_a 4 0 3 [.slice a_x28a (List.length x28a) c_x28a, uv32 x28b, .slice a_x28c (List.length x28c) c_x28c] En43 Hv41 rfl rfl rfl fun ac44 En45 => ?_
  refine f_o ?_
  refine c_l [2,3] (M := [.box bk3 [.slice wa (List.length m) wc, .bool bd] 115, .vec wa wc 1 (bys m) 5]) En45 Hv41 (fun hM48 => wpsk2_go _ bk3 wa wc m bd a_x28a c_x28a x28a ((i_x28a.ev Hv41).pick [2, 3] (by kernel_rfl)) x28b a_x28c c_x28c x28c ((i_x28c.ev Hv41).pick [2, 3] (by kernel_rfl)) (by first | omega | (simp [wput_len, beN_len]; done) | (simp [wput_len, beN_len]; omega)) hM48) ?_
  rintro _ wo49 ⟨wa46, wc47, rfl, he50⟩
  refine ⟨_, _, [.box bk3 [.slice wa46 (List.length ((k2F (m, bd) ((x28a, x28b, x28c) : PK)).1)) wc47, .bool ((k2F (m, bd) ((x28a, x28b, x28c) : PK)).2)] 115, .vec wa46 wc47 1 (bys ((k2F (m, bd) ((x28a, x28b, x28c) : PK)).1)) 5, .box bw [.slice a (List.length l) c, .bool bad] 115, .vec a c 1 (bys l) 5, .box bk33 [.slice a_x28a (List.length x28a) c_x28a, uv32 x28b, .slice a_x28c (List.length x28c) c_x28c] 140], rfl, he50, by kernel_rfl, fun ac52 En53 Hv54 => ?_⟩
  refine f_e ?_
  refine block_normal ?_
  refine then_normal ?_
  refine d_r [0,1,2,4,10,12,15,16,17] [(0, g_n (w_a i 1))] En53 fun ac55 En56 => ?_
  refine then_normal ?_
  refine ⟨_, ⟨i + 1, wa46, wc47, ((k2F (m, bd) ((x28a, x28b, x28c) : PK)).1), ((k2F (m, bd) ((x28a, x28b, x28c) : PK)).2), rfl, En56.sb, Hv54.pk [2, 3, 0, 1], (by rw [allM_take hx27, ← hfo] <;> rfl)⟩, ?_⟩
  omega
 ·
  refine wp_exit ?_
  refine then_exit ?_
  refine then_exit ?_
  refine block_exit ?_
  refine then_normal ?_
  refine wp_seq ?_
  have hfe := allM_all (F := k2F) (f := puPsk) (xs := xs) (i := i) (by omega)
  rw [← hfo] at hfe
  refine region_cut (F := fun ac wo => ∃ (b2 : Bool), Env ac 47 [(0, pt bw), (1, ni n), (2, ni x), (4, .func (.func 127) #[] #[]), (10, pt bk3), (15, .slice al (List.length xs) cl), (16, .int .i64 ((List.length xs : Nat) : Int)), (17, ni i)] ∧ Ev w [.box bw [.slice a (List.length l) c, .bool bad] 115, .vec a c 1 (bys l) 5] wo [.box bw [.slice a (List.length l) c, .bool b2] 115, .vec a c 1 (bys l) 5, .box bk3 [.slice wa (List.length m) wc, .bool bd] 115, .vec wa wc 1 (bys m) 5] ∧ (b2 = (bad || bd))) ?_ ?_
  ·
   refine region_from ?_
   refine d_k [0,1,2,4,10,15,16,17,26,29] [] 4 En21 fun ac57 En58 => ?_
   refine f_o ?_
   refine m_l 0 En58 Hv18 fun ac59 En60 => ?_
   refine d_k [0,1,2,4,10,15,16,17,26,31] [] 6 En60 fun ac61 En62 => ?_
   rcases Bool.eq_false_or_eq_true (bad) with hb63 | hb63
   ·
    have En64 := En62.fx (t := 31) (congrArg Value.bool hb63)
    have hp65 : bad = true := hb63
    refine d_k [0,1,2,4,10,15,16,17,36,38] [] 13 En64 fun ac66 En67 => ?_
    refine f_o ?_
    refine m_s 0 [.box bw [.slice a (List.length l) c, .bool true] 115, .vec a c 1 (bys l) 5, .box bk3 [.slice wa (List.length m) wc, .bool bd] 115, .vec wa wc 1 (bys m) 5] En67 Hv18 fun ac68 wo69 En70 Hv71 => ?_
    refine f_e ?_
    exact ⟨rfl, ⟨true, En70.sb, Hv71.pk [0, 1, 2, 3], (by first | exact or_t (by assumption) | exact or_f (by assumption))⟩⟩
   ·
    have En72 := En62.fx (t := 31) (congrArg Value.bool hb63)
    have hp73 : ¬ (bad = true) := Bool.eq_false_iff.1 hb63
    refine d_k [0,1,2,4,10,15,16,17,26,31,34] [] 9 En72 fun ac74 En75 => ?_
    refine f_o ?_
    refine m_l 2 En75 Hv18 fun ac76 En77 => ?_
    refine d_k [0,1,2,4,10,15,16,17,36,38] [] 13 En77 fun ac78 En79 => ?_
    refine f_o ?_
    refine m_s 0 [.box bw [.slice a (List.length l) c, .bool bd] 115, .vec a c 1 (bys l) 5, .box bk3 [.slice wa (List.length m) wc, .bool bd] 115, .vec wa wc 1 (bys m) 5] En79 Hv18 fun ac80 wo81 En82 Hv83 => ?_
    refine f_e ?_
    exact ⟨rfl, ⟨bd, En82.sb, Hv83.pk [0, 1, 2, 3], (by first | exact or_t (by assumption) | exact or_f (by assumption))⟩⟩
  ·
   rintro ac84 wo85 ⟨b2, En86, Hv87, hb2⟩
   refine then_normal ?_
   have hml := hfb (List.length xs) (Nat.le_refl _)
   rw [List.take_of_length_le (by rw [List.length_map]; exact Nat.le_refl _), ← hfe] at hml
   rw [← hfe] at hb
   refine region_from ?_
   refine d_k [0,4,10,15,16,17,39,40,41,44] [] 6 En86 fun ac88 En89 => ?_
   refine f_o ?_
   refine m_l 2 En89 Hv87 fun ac90 En91 => ?_
   refine f_o ?_
   refine c_l [0,1] (M := [.box bw [.slice a (List.length l) c, .bool b2] 115, .vec a c 1 (bys l) 5]) En91 Hv87 (fun hM94 => wlist_go _ bw a c l b2 n (by omega) x 16777215 (by omega) (by omega) wa wc m (bys_in Hv87.heap (k := 3) rfl [0, 1] (by kernel_rfl) rfl (by first | omega | (simp; done) | (simp; omega))) (by first | exact hb | omega) hM94) ?_
   rintro _ wo95 ⟨wa92, wc93, rfl, he96⟩
   refine ⟨_, _, [.box bw [.slice wa92 (List.length (wput n l m)) wc93, .bool (wbad n x 16777215 (List.length m) b2)] 115, .vec wa92 wc93 1 (bys (wput n l m)) 5, .box bk3 [.slice wa (List.length m) wc, .bool bd] 115, .vec wa wc 1 (bys m) 5], rfl, he96, by kernel_rfl, fun ac98 En99 Hv100 => ?_⟩
   refine f_e ?_
   refine d_end0 En99 (by kernel_rfl) ?_
   subst hb2
   rw [← hfe]
   exact ⟨wa92, wc93, rfl, Hv100.pk [0, 1]⟩

end Go.Proofs.Ytofecellbfhnjaa

/- Layer 17: extensions' data are written by the program. -/

namespace Go.Proofs.Ytofecellbfhnjaa
open Go.Dbr
set_option maxRecDepth 100000
set_option maxHeartbeats 2000000
set_option linter.unusedVariables false
set_option linter.unusedSimpArgs false

def pskP (ps : List PK) : Bs := doneL (wbad 2 1 16777215 (allM k2F ps).1.length (wbad 2 1 16777215 (allM k1F ps).1.length (false || (allM k1F ps).2) || (allM k2F ps).2)) (wput 2 (wput 2 [] (allM k1F ps).1) (allM k2F ps).1)

theorem ppsks_1 (w : World) (bw : Nat) (bl : Nat) (al : Option Addr) (cl : Nat) (xs : List RPsk) (il : InS fPsk 56 (fun y : RPsk => (InB w [.box bw [.slice none 0 0, .bool false] 115, .vec none 0 1 (bys []) 5, .box bl [.slice al (List.length xs) cl] 35] y.1.a y.1.c y.1.l ∧ (True ∧ (InB w [.box bw [.slice none 0 0, .bool false] 115, .vec none 0 1 (bys []) 5, .box bl [.slice al (List.length xs) cl] 35] y.2.2.1.a y.2.2.1.c y.2.2.1.l ∧ (True))))) w [.box bw [.slice none 0 0, .bool false] 115, .vec none 0 1 (bys []) 5, .box bl [.slice al (List.length xs) cl] 35] al cl xs) (hq0 : allB k1F (List.map puPsk xs)) (hq1 : allB k2F (List.map puPsk xs)) (hH : Heap w [.box bw [.slice none 0 0, .bool false] 115, .vec none 0 1 (bys []) 5, .box bl [.slice al (List.length xs) cl] 35]) : Calls Try.prog 123 #[pt bw, pt bl] w fun e w' => ∃ a' c', e = .returned (.tuple #[]) ∧ Ev w [.box bw [.slice none 0 0, .bool false] 115, .vec none 0 1 (bys []) 5, .box bl [.slice al (List.length xs) cl] 35] w' [.box bw [.slice a' (List.length (wput 2 (wput 2 [] (allM k1F (List.map puPsk xs)).1) (allM k2F (List.map puPsk xs)).1)) c', .bool (wbad 2 1 16777215 (List.length (allM k2F (List.map puPsk xs)).1) (wbad 2 1 16777215 (List.length (allM k1F (List.map puPsk xs)).1) (false || (allM k1F (List.map puPsk xs)).2) || (allM k2F (List.map puPsk xs)).2))] 115, .vec a' c' 1 (bys (wput 2 (wput 2 [] (allM k1F (List.map puPsk xs)).1) (allM k2F (List.map puPsk xs)).1)) 5] := by
 refine d_0 [(0, pt bw), (1, pt bl)] 9 Go.Proofs.Try.func123 Go.Proofs.Try.ntmps123 (hH) fun act0 En0 Hv0 => ?_
 refine wp_seq ?_
 refine region_from ?_
 refine d_k [0,1,3] [] 1 En0 fun ac1 En2 => ?_
 refine f_o ?_
 refine m_l 2 En2 Hv0 fun ac3 En4 => ?_
 refine f_o ?_
 refine c_l [0,1] (M := [.box bw [.slice none 0 0, .bool false] 115, .vec none 0 1 (bys []) 5]) En4 Hv0 (fun hM7 => all_psk1 _ bw none 0 [] false 2 (by omega) 1 (by omega) al cl xs (il.go Hv0 [0, 1] (by kernel_rfl) (fun _ h => ⟨(InB.ev h.1 Hv0).pick [0, 1] (by kernel_rfl), h.2.1, (InB.ev h.2.2.1 Hv0).pick [0, 1] (by kernel_rfl), h.2.2.2⟩)) (fun i _ => by first | exact Nat.le_trans (hq0 i) (by decide) | exact Nat.le_trans (hq1 i) (by decide)) (by have hhq0 := allB_all hq0; have hhq1 := allB_all hq1; simp only [List.length_nil, wput_len]; omega) hM7) ?_
 rintro _ wo8 ⟨wa5, wc6, rfl, he9⟩
 refine ⟨_, _, [.box bw [.slice wa5 (List.length (wput 2 [] (allM k1F (List.map puPsk xs)).1)) wc6, .bool (wbad 2 1 16777215 (List.length (allM k1F (List.map puPsk xs)).1) (false || (allM k1F (List.map puPsk xs)).2))] 115, .vec wa5 wc6 1 (bys (wput 2 [] (allM k1F (List.map puPsk xs)).1)) 5, .box bl [.slice al (List.length xs) cl] 35], rfl, he9, by kernel_rfl, fun ac11 En12 Hv13 => ?_⟩
 refine f_e ?_
 refine then_normal ?_
 refine region_from ?_
 refine d_k [0,1,6] [] 1 En12 fun ac14 En15 => ?_
 refine f_o ?_
 refine m_l 2 En15 Hv13 fun ac16 En17 => ?_
 refine f_o ?_
 refine c_l [0,1] (M := [.box bw [.slice wa5 (List.length (wput 2 [] (allM k1F (List.map puPsk xs)).1)) wc6, .bool (wbad 2 1 16777215 (List.length (allM k1F (List.map puPsk xs)).1) (false || (allM k1F (List.map puPsk xs)).2))] 115, .vec wa5 wc6 1 (bys (wput 2 [] (allM k1F (List.map puPsk xs)).1)) 5]) En17 Hv13 (fun hM20 => all_psk2 _ bw wa5 wc6 (wput 2 [] (allM k1F (List.map puPsk xs)).1) (wbad 2 1 16777215 (List.length (allM k1F (List.map puPsk xs)).1) (false || (allM k1F (List.map puPsk xs)).2)) 2 (by omega) 1 (by omega) al cl xs (il.go Hv13 [0, 1] (by kernel_rfl) (fun _ h => ⟨(InB.ev h.1 Hv13).pick [0, 1] (by kernel_rfl), h.2.1, (InB.ev h.2.2.1 Hv13).pick [0, 1] (by kernel_rfl), h.2.2.2⟩)) (fun i _ => by first | exact Nat.le_trans (hq0 i) (by decide) | exact Nat.le_trans (hq1 i) (by decide)) (by have hhq0 := allB_all hq0; have hhq1 := allB_all hq1; simp only [List.length_nil, wput_len]; omega) hM20) ?_
 rintro _ wo21 ⟨wa18, wc19, rfl, he22⟩
 refine ⟨_, _, [.box bw [.slice wa18 (List.length (wput 2 (wput 2 [] (allM k1F (List.map puPsk xs)).1) (allM k2F (List.map puPsk xs)).1)) wc19, .bool (wbad 2 1 16777215 (List.length (allM k2F (List.map puPsk xs)).1) ((wbad 2 1 16777215 (List.length (allM k1F (List.map puPsk xs)).1) (false || (allM k1F (List.map puPsk xs)).2)) || (allM k2F (List.map puPsk xs)).2))] 115, .vec wa18 wc19 1 (bys (wput 2 (wput 2 [] (allM k1F (List.map puPsk xs)).1) (allM k2F (List.map puPsk xs)).1)) 5, .box bl [.slice al (List.length xs) cl] 35], rfl, he22, by kernel_rfl, fun ac24 En25 Hv26 => ?_⟩
 refine f_e ?_
 refine d_end0 En25 (by kernel_rfl) ?_
 exact ⟨wa18, wc19, rfl, Hv26.pk [0, 1]⟩

theorem put_ppsks (w : World) (bl : Nat) (al : Option Addr) (cl : Nat) (xs : List RPsk) (il : InS fPsk 56 (fun y : RPsk => (InB w [.box bl [.slice al (List.length xs) cl] 35] y.1.a y.1.c y.1.l ∧ (True ∧ (InB w [.box bl [.slice al (List.length xs) cl] 35] y.2.2.1.a y.2.2.1.c y.2.2.1.l ∧ (True))))) w [.box bl [.slice al (List.length xs) cl] 35] al cl xs) (hq0 : allB k1F (List.map puPsk xs)) (hq1 : allB k2F (List.map puPsk xs)) (hH : Heap w [.box bl [.slice al (List.length xs) cl] 35]) : Calls Try.prog 99 #[.func (.func 123) #[] #[pt bl]] w fun e w' => ∃ a' c', e = .returned (.slice a' (List.length (doneL (wbad 2 1 16777215 (List.length (allM k2F (List.map puPsk xs)).1) (wbad 2 1 16777215 (List.length (allM k1F (List.map puPsk xs)).1) (false || (allM k1F (List.map puPsk xs)).2) || (allM k2F (List.map puPsk xs)).2)) (wput 2 (wput 2 [] (allM k1F (List.map puPsk xs)).1) (allM k2F (List.map puPsk xs)).1))) c') ∧ Ev w [.box bl [.slice al (List.length xs) cl] 35] w' [.vec a' c' 1 (bys (doneL (wbad 2 1 16777215 (List.length (allM k2F (List.map puPsk xs)).1) (wbad 2 1 16777215 (List.length (allM k1F (List.map puPsk xs)).1) (false || (allM k1F (List.map puPsk xs)).2) || (allM k2F (List.map puPsk xs)).2)) (wput 2 (wput 2 [] (allM k1F (List.map puPsk xs)).1) (allM k2F (List.map puPsk xs)).1))) 5] := by
 refine d_0 [(0, .func (.func 123) #[] #[pt bl])] 11 Go.Proofs.Try.func99 Go.Proofs.Try.ntmps99 (hH) fun act0 En0 Hv0 => ?_
 refine d_s [0,2] [] En0 fun ac1 En2 => ?_
 refine wp_seq ?_
 refine region_from ?_
 refine d_k [0,2,4] [] 1 En2 fun ac3 En4 => ?_
 refine f_o ?_
 refine m_m 115 [.slice none 0 0, .bool false] En4 Hv0 fun ac6 wo7 bk5 En8 Hv9 => ?_
 refine d_e [0,2,3] [] En8 fun ac10 En11 => ?_
 refine then_normal ?_
 refine wp_seq ?_
 refine region_from ?_
 refine d_k [2,3,6,7] [] 2 En11 fun ac12 En13 => ?_
 refine f_o ?_
 have Hv14 : Ev w [.box bl [.slice al (List.length xs) cl] 35] wo7 [.box bl [.slice al (List.length xs) cl] 35, .box bk5 [.slice none 0 0, .bool false] 115, .vec none 0 1 (bys []) 5] := Ev.nil (sz := 1) (T := 5) Hv9
 refine c_l [1,2,0] (M := [.box bk5 [.slice none 0 0, .bool false] 115, .vec none 0 1 (bys []) 5, .box bl [.slice al (List.length xs) cl] 35]) En13 Hv14 (fun hM17 => ppsks_1 _ bk5 bl al cl xs (il.go Hv14 [1, 2, 0] (by kernel_rfl) (fun _ h => ⟨(InB.ev h.1 Hv14).pick [1, 2, 0] (by kernel_rfl), h.2.1, (InB.ev h.2.2.1 Hv14).pick [1, 2, 0] (by kernel_rfl), h.2.2.2⟩)) hq0 hq1 hM17) ?_
 rintro _ wo18 ⟨wa15, wc16, rfl, he19⟩
 refine ⟨_, _, [.box bk5 [.slice wa15 (List.length (wput 2 (wput 2 [] (allM k1F (List.map puPsk xs)).1) (allM k2F (List.map puPsk xs)).1)) wc16, .bool (wbad 2 1 16777215 (List.length (allM k2F (List.map puPsk xs)).1) (wbad 2 1 16777215 (List.length (allM k1F (List.map puPsk xs)).1) (false || (allM k1F (List.map puPsk xs)).2) || (allM k2F (List.map puPsk xs)).2))] 115, .vec wa15 wc16 1 (bys (wput 2 (wput 2 [] (allM k1F (List.map puPsk xs)).1) (allM k2F (List.map puPsk xs)).1)) 5], rfl, he19, by kernel_rfl, fun ac21 En22 Hv23 => ?_⟩
 refine f_e ?_
 refine then_normal ?_
 refine wp_seq ?_
 refine region_from ?_
 refine d_k [2,3,9] [] 1 En22 fun ac24 En25 => ?_
 refine f_o ?_
 refine c_l [0,1] (M := [.box bk5 [.slice wa15 (List.length (wput 2 (wput 2 [] (allM k1F (List.map puPsk xs)).1) (allM k2F (List.map puPsk xs)).1)) wc16, .bool (wbad 2 1 16777215 (List.length (allM k2F (List.map puPsk xs)).1) (wbad 2 1 16777215 (List.length (allM k1F (List.map puPsk xs)).1) (false || (allM k1F (List.map puPsk xs)).2) || (allM k2F (List.map puPsk xs)).2))] 115, .vec wa15 wc16 1 (bys (wput 2 (wput 2 [] (allM k1F (List.map puPsk xs)).1) (allM k2F (List.map puPsk xs)).1)) 5]) En25 Hv23 (fun hM28 => wdone_go _ bk5 wa15 wc16 (wput 2 (wput 2 [] (allM k1F (List.map puPsk xs)).1) (allM k2F (List.map puPsk xs)).1) (wbad 2 1 16777215 (List.length (allM k2F (List.map puPsk xs)).1) (wbad 2 1 16777215 (List.length (allM k1F (List.map puPsk xs)).1) (false || (allM k1F (List.map puPsk xs)).2) || (allM k2F (List.map puPsk xs)).2)) hM28) ?_
 rintro _ wo29 ⟨da26, dc27, rfl, he30⟩
 refine ⟨_, _, [.vec da26 dc27 1 (bys (doneL (wbad 2 1 16777215 (List.length (allM k2F (List.map puPsk xs)).1) (wbad 2 1 16777215 (List.length (allM k1F (List.map puPsk xs)).1) (false || (allM k1F (List.map puPsk xs)).2) || (allM k2F (List.map puPsk xs)).2)) (wput 2 (wput 2 [] (allM k1F (List.map puPsk xs)).1) (allM k2F (List.map puPsk xs)).1))) 5], rfl, he30, by kernel_rfl, fun ac32 En33 Hv34 => ?_⟩
 refine d_e [2,3] [] En33 fun ac35 En36 => ?_
 refine then_normal ?_
 refine wp_ret ?_
 refine d_ret1 (t := 2) (v := .slice da26 (List.length (doneL (wbad 2 1 16777215 (List.length (allM k2F (List.map puPsk xs)).1) (wbad 2 1 16777215 (List.length (allM k1F (List.map puPsk xs)).1) (false || (allM k1F (List.map puPsk xs)).2) || (allM k2F (List.map puPsk xs)).2)) (wput 2 (wput 2 [] (allM k1F (List.map puPsk xs)).1) (allM k2F (List.map puPsk xs)).1))) dc27) En36 (by kernel_rfl) (by kernel_rfl) ?_
 exact ⟨da26, dc27, rfl, Hv34.pk [0]⟩

theorem ppsks_go (w : World) (al : Option Addr) (cl : Nat) (xs : List RPsk) (il : InS fPsk 56 (fun y : RPsk => (InB w [] y.1.a y.1.c y.1.l ∧ (True ∧ (InB w [] y.2.2.1.a y.2.2.1.c y.2.2.1.l ∧ (True))))) w [] al cl xs) (hq0 : allB k1F (List.map puPsk xs)) (hq1 : allB k2F (List.map puPsk xs)) : Calls Try.prog 29 #[.slice al (List.length xs) cl] w fun e w' => ∃ a' c', e = .returned (.slice a' (List.length (pskP (List.map puPsk xs))) c') ∧ Ev w [] w' [.vec a' c' 1 (bys (pskP (List.map puPsk xs))) 5] := by
 refine d_0 [(0, .slice al (List.length xs) cl)] 5 Go.Proofs.Try.func29 Go.Proofs.Try.ntmps29 (Heap.nil _) fun act0 En0 Hv0 => ?_
 refine wp_seq ?_
 refine region_from ?_
 refine f_o ?_
 refine m_m 35 [.slice al (List.length xs) cl] En0 Hv0 fun ac2 wo3 bk1 En4 Hv5 => ?_
 refine d_e [1,2] [] En4 fun ac6 En7 => ?_
 refine then_normal ?_
 refine wp_seq ?_
 refine region_from ?_
 refine d_k [2,3] [] 1 En7 fun ac8 En9 => ?_
 refine f_o ?_
 refine c_l [0] (M := [.box bk1 [.slice al (List.length xs) cl] 35]) En9 Hv5 (fun hM12 => put_ppsks _ bk1 al cl xs (il.go Hv5 [0] (by kernel_rfl) (fun _ h => ⟨(InB.ev h.1 Hv5).pick [0] (by kernel_rfl), h.2.1, (InB.ev h.2.2.1 Hv5).pick [0] (by kernel_rfl), h.2.2.2⟩)) hq0 hq1 hM12) ?_
 rintro _ wo13 ⟨pa10, pc11, rfl, he14⟩
 refine ⟨_, _, [.vec pa10 pc11 1 (bys (pskP (List.map puPsk xs))) 5], rfl, he14, by kernel_rfl, fun ac16 En17 Hv18 => ?_⟩
 refine d_e [2] [] En17 fun ac19 En20 => ?_
 refine then_normal ?_
 refine wp_ret ?_
 refine d_ret1 (t := 2) (v := .slice pa10 (List.length (pskP (List.map puPsk xs))) pc11) En20 (by kernel_rfl) (by kernel_rfl) ?_
 exact ⟨pa10, pc11, rfl, Hv18.pk [0]⟩

end Go.Proofs.Ytofecellbfhnjaa

/- Layer 17: the document writes parts. -/

namespace Go.Proofs.Ytofecellbfhnjaa
open Go.Dbr
set_option maxRecDepth 100000
set_option maxHeartbeats 2000000
set_option linter.unusedVariables false
set_option linter.unusedSimpArgs false

end Go.Proofs.Ytofecellbfhnjaa

/- Layer 17: extensions' data are written by the document. -/


namespace Go.Proofs.Ytofecellbfhnjaa
open Go.Dbr
set_option maxRecDepth 100000
set_option maxHeartbeats 2000000
set_option linter.unusedVariables false
set_option linter.unusedSimpArgs false

end Go.Proofs.Ytofecellbfhnjaa

/- Layer 17: lists of parts are written by the document. -/

namespace Go.Proofs.Ytofecellbfhnjaa
open Go.Dbr
set_option maxRecDepth 100000
set_option maxHeartbeats 2000000
set_option linter.unusedVariables false
set_option linter.unusedSimpArgs false

end Go.Proofs.Ytofecellbfhnjaa

/- Layer 17: extensions are found, by both. -/

namespace Go.Proofs.Ytofecellbfhnjaa
open Go.Dbr
set_option maxRecDepth 100000
set_option maxHeartbeats 2000000
set_option linter.unusedVariables false
set_option linter.unusedSimpArgs false

abbrev RExt := (UInt16) × (Sl UInt8) × Unit
abbrev fExt : RExt → List Value := (fun p : (UInt16) × (Sl UInt8) × Unit => (fun n : UInt16 => [uv16 n]) p.1 ++ (fun p : (Sl UInt8) × Unit => (fun s : Sl UInt8 => s.f) p.1 ++ (fun _ : Unit => []) p.2) p.2)
abbrev EX := UInt16 × Bs
def fdN (t : UInt16) : List EX → Nat
  | [] => 0
  | p :: r => if p.1 = t then 0 else fdN t r + 1
def fdP (t : UInt16) : List EX → Bs × Bool
  | [] => ([], false)
  | p :: r => if p.1 = t then (p.2, true) else fdP t r
def fdI (t : UInt16) (ps : List EX) : Int := if fdN t ps < ps.length then (fdN t ps : Int) else -1
theorem fd_get {t : UInt16} : ∀ {ps : List EX} {p : EX}, ps[fdN t ps]? = some p → fdP t ps = (p.2, true)
  | [], _, h => by simp [fdN] at h
  | q :: r, p, h => by
    by_cases e : q.1 = t
    · rw [fdN, if_pos e, List.getElem?_cons_zero] at h
      rw [fdP, if_pos e, Option.some.inj h]
    · rw [fdN, if_neg e, List.getElem?_cons_succ] at h
      rw [fdP, if_neg e]
      exact fd_get h
theorem fd_hit {α : Type} {t : UInt16} {f : α → EX} {xs : List α} {i : Nat} {x : α} (hi : fdN t (List.map f xs) = i + fdN t (List.drop i (List.map f xs))) (hx : xs[i]? = some x) (e : (f x).1 = t) : fdN t (List.map f xs) = i ∧ fdP t (List.map f xs) = ((f x).2, true) := by
  have hp : (List.map f xs)[i]? = some (f x) := by rw [List.getElem?_map, hx]; rfl
  obtain ⟨hl, hg⟩ := List.getElem?_eq_some_iff.1 hp
  have hd : List.drop i (List.map f xs) = f x :: List.drop (i + 1) (List.map f xs) := by rw [List.drop_eq_getElem_cons hl, hg]
  have h1 : fdN t (List.map f xs) = i := by rw [hi, hd, fdN, if_pos e, Nat.add_zero]
  exact ⟨h1, fd_get (by rw [h1]; exact hp)⟩
theorem fd_go {α : Type} {t : UInt16} {f : α → EX} {xs : List α} {i : Nat} {x : α} (hi : fdN t (List.map f xs) = i + fdN t (List.drop i (List.map f xs))) (hx : xs[i]? = some x) (e : ¬ (f x).1 = t) : fdN t (List.map f xs) = i + 1 + fdN t (List.drop (i + 1) (List.map f xs)) := by
  have hp : (List.map f xs)[i]? = some (f x) := by rw [List.getElem?_map, hx]; rfl
  obtain ⟨hl, hg⟩ := List.getElem?_eq_some_iff.1 hp
  have hd : List.drop i (List.map f xs) = f x :: List.drop (i + 1) (List.map f xs) := by rw [List.drop_eq_getElem_cons hl, hg]
  rw [hi, hd, fdN, if_neg e]
  omega
theorem fd_end {α : Type} {t : UInt16} {f : α → EX} {xs : List α} {i : Nat} (hi : fdN t (List.map f xs) = i + fdN t (List.drop i (List.map f xs))) (h : ¬ i < xs.length) : ¬ fdN t (List.map f xs) < (List.map f xs).length := by
  rw [hi, List.length_map]
  omega
theorem fdI_n {t : UInt16} {ps : List EX} (h : ¬ fdN t ps < ps.length) : fdI t ps = -1 := by rw [fdI, if_neg h]
theorem fdI_y {t : UInt16} {ps : List EX} (h : fdN t ps < ps.length) : fdI t ps = (fdN t ps : Int) := by rw [fdI, if_pos h]
end Go.Proofs.Ytofecellbfhnjaa

/- Layer 17: both write the same; how much is written. -/

namespace Go.Proofs.Ytofecellbfhnjaa
open Go.Dbr
set_option maxRecDepth 100000
set_option maxHeartbeats 2000000
set_option linter.unusedVariables false
set_option linter.unusedSimpArgs false

theorem wd_eq (n x y k : Nat) (bad : Bool) : wbad n x y k bad = (bad || dbad n x y k) := by
  have hm : 0 < 2 ^ (8 * n) := Nat.pow_pos (by decide)
  have h : decide (0 < k / 2 ^ (8 * n)) = decide (2 ^ (8 * n) ≤ k) := decide_eq_decide.2 ⟨fun g => by
    rcases Nat.lt_or_ge k (2 ^ (8 * n)) with g2 | g2
    · rw [Nat.div_eq_of_lt g2] at g; exact absurd g (by decide)
    · exact g2, fun g => Nat.div_pos g hm⟩
  rw [wbad, dbad, h]
/-! how much -/
theorem foldl_len {β : Type} {F : WS → β → WS} {g : β → Nat} (h : ∀ p x, (F p x).1.length ≤ p.1.length + 8 * (g x + 1)) : ∀ (ps : List β) (p : WS), (List.foldl F p ps).1.length ≤ p.1.length + 8 * (List.map (fun x => g x + 1) ps).sum
  | [], _ => Nat.le_add_right _ _
  | x :: r, p => by
    have h1 := foldl_len h r (F p x)
    have h2 := h p x
    rw [List.foldl_cons, List.map_cons, List.sum_cons]
    omega
theorem sum_le {α β : Type} {g : β → Nat} {pu : α → β} {m : α → Nat} (hg : ∀ y, g (pu y) + 1 ≤ m y) : ∀ (xs : List α) (i : Nat), (List.map (fun x => g x + 1) (List.take i (List.map pu xs))).sum ≤ (List.map m xs).sum
  | [], i => by simp
  | x :: r, 0 => by simp
  | x :: r, i + 1 => by
    have h1 := sum_le hg r i
    have h2 := hg x
    rw [List.map_cons, List.take_succ_cons, List.map_cons, List.sum_cons, List.map_cons, List.sum_cons]
    omega
theorem allB_of {α β : Type} {F : WS → β → WS} {g : β → Nat} (h : ∀ p x, (F p x).1.length ≤ p.1.length + 8 * (g x + 1)) {pu : α → β} {m : α → Nat} (hg : ∀ y, g (pu y) + 1 ≤ m y) {xs : List α} (hs : (List.map m xs).sum ≤ 1048576) : allB F (List.map pu xs) := fun i => by
  have h1 := foldl_len h (List.take i (List.map pu xs)) ([], false)
  have h2 := sum_le hg xs i
  rw [allM]
  simp only [List.length_nil, Nat.zero_add] at h1
  omega
theorem u16F_l (p : WS) (x : UInt16) : (u16F p x).1.length ≤ p.1.length + 8 * (0 + 1) := by rw [u16F, List.length_append, beN_len]; omega
theorem k1F_l (p : WS) (x : PK) : (k1F p x).1.length ≤ p.1.length + 8 * (x.1.length + x.2.2.length + 1) := by rw [k1F, List.length_append, wput_len, beN_len]; omega
theorem k2F_l (p : WS) (x : PK) : (k2F p x).1.length ≤ p.1.length + 8 * (x.1.length + x.2.2.length + 1) := by rw [k2F, wput_len]; omega
end Go.Proofs.Ytofecellbfhnjaa
