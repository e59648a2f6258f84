/- Layer 17: parts are written as a list; a host's name; the head. -/
import Derived.Test.YtofecellbfhnjaaW9
namespace Go.Proofs.Ytofecellbfhnjaa
open Go.Dbr
set_option maxRecDepth 100000
set_option maxHeartbeats 2000000
set_option linter.unusedVariables false
set_option linter.unusedSimpArgs false

abbrev RStr := List UInt8
abbrev fStr : RStr → List Value := (fun l : List UInt8 => [.string (bstr l)])
abbrev WS := Bs × Bool
/-- parts, one behind the other -/
def allM {β : Type} (F : WS → β → WS) (ps : List β) : WS := List.foldl F ([], false) ps
theorem allM_take {β γ : Type} {F : WS → β → WS} {f : γ → β} {xs : List γ} {i : Nat} {x : γ} (h : xs[i]? = some x) : allM F (List.take (i + 1) (List.map f xs)) = F (allM F (List.take i (List.map f xs))) (f x) := by
  rw [List.take_add_one, List.getElem?_map, h]
  show allM F (_ ++ [f x]) = _
  rw [allM, List.foldl_append]
  rfl
theorem allM_all {β γ : Type} {F : WS → β → WS} {f : γ → β} {xs : List γ} {i : Nat} (h : ¬ i < xs.length) : allM F (List.take i (List.map f xs)) = allM F (List.map f xs) := by
  rw [List.take_of_length_le (by rw [List.length_map]; omega)]
theorem wput_len (n : Nat) (l b : Bs) : (wput n l b).length = l.length + n + b.length := by rw [wput, List.length_append, List.length_append, beN_len]
theorem or_t {a b : Bool} (h : a = true) : true = (a || b) := by subst h; rfl
theorem or_f {a b : Bool} (h : ¬ a = true) : b = (a || b) := by rw [Bool.eq_false_iff.2 h]; rfl

def nmF (p : WS) (t : Bs) : WS := (wput 2 (p.1 ++ [0]) t, wbad 2 1 65535 t.length p.2)

theorem putname11 (w : World) (bw : Nat) (a : Option Addr) (c : Nat) (l : Bs) (bad : Bool) (t : Bs) (ht : List.length t ≤ 140737489403904) (hb : List.length l + 3 + List.length t ≤ 200000000000000) (hH : Heap w [.box bw [.slice a (List.length l) c, .bool bad] 115, .vec a c 1 (bys l) 5]) : Calls Try.prog 109 #[pt bw, .string (bstr t)] w fun e w' => ∃ a' c', e = .returned (.tuple #[]) ∧ Ev w [.box bw [.slice a (List.length l) c, .bool bad] 115, .vec a c 1 (bys l) 5] w' [.box bw [.slice a' (List.length ((nmF (l, bad) t).1)) c', .bool ((nmF (l, bad) t).2)] 115, .vec a' c' 1 (bys ((nmF (l, bad) t).1)) 5] := by
 refine d_0 [(0, pt bw), (1, .string (bstr t))] 17 Go.Proofs.Try.func109 Go.Proofs.Try.ntmps109 (hH) fun act0 En0 Hv0 => ?_
 refine wp_seq ?_
 refine region_from ?_
 refine d_k [0,1,4,7] [] 4 En0 fun ac1 En2 => ?_
 refine f_o ?_
 refine m_l 0 En2 Hv0 fun ac3 En4 => ?_
 refine f_o ?_
 refine op_lit (d := some 9) (t := 23) (T := 5) (m := 1) (parts := #[(0, .int .u8 0)]) (xs := bys [(0 : UInt8)]) (sz := 1) En4 (by kernel_rfl) (by kernel_rfl) rfl (by decide) Hv0 ?_
 intro ac6 wo7 bk5 En8 Hv9
 refine f_o ?_
 refine op_append (d := some 10) (t := 23) (tx := 23) (ty := 23) (k := 1) (p := List.length l) (m := 1) (x := .slice (some ⟨bk5, 0, none⟩) 1 1) (bytes := 1) En8 (by kernel_rfl) Hv9 rfl (bys_len _) (Reads.src (size := 1) (tx := 23) (e' := 5) (by kernel_rfl) (Hv9.heap.reads (k := 2) rfl) rfl (fun e => by cases e) (bys_one _)) (by kernel_rfl) (z := .int .u8 0) (by kernel_rfl) rfl (by decide) (by first | omega | (simp [beN_len]; done) | (simp [beN_len]; omega)) (by unfold maxLen; first | omega | (simp [beN_len]; done) | (simp [beN_len]; omega)) ?_
 intro ac14 wo15 ao10 cp11 En16 Hv17 hnz _
 clear hnz
 rw [← bys_append] at Hv17
 have ehz12 : (List.length l) + 1 = List.length (l ++ [(0 : UInt8)]) := (by first | (simp; done) | (simp; omega) | omega)
 rw [ehz12] at En16
 refine d_k [0,1,10,12] [] 9 En16 fun ac18 En19 => ?_
 refine f_o ?_
 refine m_s 0 [.box bw [.slice ao10 (List.length (l ++ [(0 : UInt8)])) cp11, .bool bad] 115, .vec ao10 cp11 1 (bys (l ++ [(0 : UInt8)])) 5, .vec (some ⟨bk5, 0, none⟩) 1 1 (bys [(0 : UInt8)]) 5] En19 Hv17 fun ac20 wo21 En22 Hv23 => ?_
 refine f_e ?_
 refine then_normal ?_
 refine region_from ?_
 refine d_k [0,13,14] [] 2 En22 fun ac24 En25 => ?_
 refine f_o ?_
 refine op_bytes (d := some 15) (src := 9) (dst := 23) (e := 5) (s := t) En25 (by kernel_rfl) (by kernel_rfl) (by kernel_rfl) (by kernel_rfl) Hv23 (by unfold maxLen; first | omega | (simp; omega)) ?_
 intro ac29 wo30 bk26 cp27 En31 Hv32 hcb28
 refine f_o ?_
 refine c_l [0,1] (M := [.box bw [.slice ao10 (List.length (l ++ [(0 : UInt8)])) cp11, .bool bad] 115, .vec ao10 cp11 1 (bys (l ++ [(0 : UInt8)])) 5]) En31 Hv32 (fun hM35 => wlist_go _ bw ao10 cp11 (l ++ [(0 : UInt8)]) bad 2 (by omega) 1 65535 (by omega) (by omega) (some ⟨bk26, 0, none⟩) cp27 t (bys_in Hv32.heap (k := 3) rfl [0, 1] (by kernel_rfl) rfl (by first | omega | (simp; done) | (simp; omega))) (by simp; omega) hM35) ?_
 rintro _ wo36 ⟨wa33, wc34, rfl, he37⟩
 refine ⟨_, _, [.box bw [.slice wa33 (List.length (wput 2 (l ++ [(0 : UInt8)]) t)) wc34, .bool (wbad 2 1 65535 (List.length t) bad)] 115, .vec wa33 wc34 1 (bys (wput 2 (l ++ [(0 : UInt8)]) t)) 5, .vec (some ⟨bk5, 0, none⟩) 1 1 (bys [(0 : UInt8)]) 5, .vec (some ⟨bk26, 0, none⟩) cp27 1 (bys t) 5], rfl, he37, by kernel_rfl, fun ac39 En40 Hv41 => ?_⟩
 refine f_e ?_
 refine d_end0 En40 (by kernel_rfl) ?_
 exact ⟨wa33, wc34, rfl, Hv41.pk [0, 1]⟩

theorem all_str (w : World) (bw : Nat) (a : Option Addr) (c : Nat) (l : Bs) (bad : Bool) (n : Nat) (hn : n ≤ 4) (x : Nat) (hx : x ≤ 4294967295) (al : Option Addr) (cl : Nat) (xs : List RStr) (il : InS fStr 16 (fun y : RStr => (List.length y ≤ 140737488351232)) w [.box bw [.slice a (List.length l) c, .bool bad] 115, .vec a c 1 (bys l) 5] al cl xs) (hfb : ∀ i, i ≤ List.length xs → List.length (allM nmF (List.take i (List.map (fun y : RStr => y) xs))).1 ≤ 140737489403904) (hb : List.length l + n + List.length (allM nmF (List.map (fun y : RStr => y) xs)).1 ≤ 200000000000000) (hH : Heap w [.box bw [.slice a (List.length l) c, .bool bad] 115, .vec a c 1 (bys l) 5]) : Calls Try.prog 108 #[pt bw, ni n, ni x, .slice al (List.length xs) cl, .func (.func 109) #[] #[]] w fun e w' => ∃ a' c', e = .returned (.tuple #[]) ∧ Ev w [.box bw [.slice a (List.length l) c, .bool bad] 115, .vec a c 1 (bys l) 5] w' [.box bw [.slice a' (List.length (wput n l (allM nmF (List.map (fun y : RStr => y) xs)).1)) c', .bool (wbad n x 16777215 (List.length (allM nmF (List.map (fun y : RStr => y) xs)).1) (bad || (allM nmF (List.map (fun y : RStr => y) xs)).2))] 115, .vec a' c' 1 (bys (wput n l (allM nmF (List.map (fun y : RStr => y) xs)).1)) 5] := by
 have hxs := il.small
 have hxc := il.cap
 refine d_0 [(0, pt bw), (1, ni n), (2, ni x), (3, .slice al (List.length xs) cl), (4, .func (.func 109) #[] #[])] 47 Go.Proofs.Try.func108 Go.Proofs.Try.ntmps108 (hH) fun act0 En0 Hv0 => ?_
 refine wp_seq ?_
 refine region_from ?_
 refine d_k [0,1,2,3,4,13] [] 1 En0 fun ac1 En2 => ?_
 refine f_o ?_
 refine m_m 115 [.slice none 0 0, .bool false] En2 Hv0 fun ac4 wo5 bk3 En6 Hv7 => ?_
 refine d_e [0,1,2,3,4,10] [] En6 fun ac8 En9 => ?_
 refine then_normal ?_
 refine wp_seq ?_
 refine wp_seq ?_
 refine d_r [0,1,2,4,10,15,16,17] [] En9 fun ac10 En11 => ?_
 refine then_normal ?_
 refine wp_block ?_
 have Hv12 : Ev w [.box bw [.slice a (List.length l) c, .bool bad] 115, .vec a c 1 (bys l) 5] wo5 [.box bw [.slice a (List.length l) c, .bool bad] 115, .vec a c 1 (bys l) 5, .box bk3 [.slice none 0 0, .bool false] 115, .vec none 0 1 (bys []) 5] := Ev.nil (sz := 1) (T := 5) Hv7
 refine loop_m (fun ms13 ac wo => ∃ (i : Nat) (wa : Option Addr) (wc : Nat) (m : Bs) (bd : Bool), ms13 = (List.length xs + 1 - i : Nat) ∧ Env ac 47 [(0, pt bw), (1, ni n), (2, ni x), (4, .func (.func 109) #[] #[]), (10, pt bk3), (15, .slice al (List.length xs) cl), (16, .int .i64 ((List.length xs : Nat) : Int)), (17, ni i)] ∧ Ev w [.box bw [.slice a (List.length l) c, .bool bad] 115, .vec a c 1 (bys l) 5] wo [.box bw [.slice a (List.length l) c, .bool bad] 115, .vec a c 1 (bys l) 5, .box bk3 [.slice wa (List.length m) wc, .bool bd] 115, .vec wa wc 1 (bys m) 5] ∧ ((m, bd) = allM nmF (List.take i (List.map (fun y : RStr => y) xs)))) ⟨_, 0, none, 0, [], false, rfl, En11.sb, Hv12.pk [0, 1, 2, 3], rfl⟩ ?_
 rintro mm19 ac15 wo16 ⟨i, wa, wc, m, bd, rfl, En17, Hv18, hfo⟩
 refine wp_seq ?_
 refine d_r [0,1,2,4,10,15,16,17,18] [] En17 fun ac20 En21 => ?_
 refine then_normal ?_
 refine wp_seq ?_
 refine c_d (((i : Nat) : Int) < ((List.length xs : Nat) : Int)) En21 (fun hc22 => ?_) (fun hc22 => ?_)
 ·
  refine wp_skip ?_
  refine then_normal ?_
  refine wp_seq ?_
  refine wp_block ?_
  refine wp_seq ?_
  have hb25 : i < List.length xs := (by omega)
  obtain ⟨adr23, had24⟩ := some_of il.nz hb25
  have hb26 : i < List.length xs := by omega
  obtain ⟨x28, hx27⟩ : ∃ x, (xs)[i]? = some x := ⟨_, List.getElem?_eq_getElem hb26⟩
  obtain s_x28 := il.each _ (List.mem_of_getElem? hx27)
  replace s_x28 : (List.length x28 ≤ 140737488351232) := s_x28
  refine region_from ?_
  refine f_o ?_
  refine q_v (x := Instr.indexAt 33 (.slice al (List.length xs) cl) (ni i)) (v := .pointer (some (Addr.add adr23 i))) En21 (Go.Dbr.run_indexsl (e := 9) (sz := 1) (j := i) (jo := i) had24 (by kernel_rfl) (by kernel_rfl) (by omega) hb25 (Nat.mul_one _) _) fun ac29 En30 => ?_
  refine f_o ?_
  refine op_loadf (d := some 20) (t := 9) (ad := adr23) (ao := al) (ys := List.flatMap fStr xs) (o := i) (v := .string (bstr x28)) En30 (by kernel_rfl) rfl (il.ro.ev Hv18).reads had24 ((flat_get1 (fun _ _ => rfl) hx27).trans rfl) (by kernel_rfl) ?_
  intro ac31 En32
  refine d_e [0,1,2,4,10,12,15,16,17] [] En32 fun ac33 En34 => ?_
  refine then_normal ?_
  have hnb := hfb (i + 1) (by omega)
  rw [allM_take hx27, ← hfo] at hnb
  have hnc := hnb
  simp only [nmF, wput_len, List.length_append, List.length_singleton] at hnc
  refine region_from ?_
  refine d_k [0,1,2,4,10,15,16,17,21,22,23] [] 3 En34 fun ac35 En36 => ?_
  refine f_o ?_
  refine c_l [2,3] (M := [.box bk3 [.slice wa (List.length m) wc, .bool bd] 115, .vec wa wc 1 (bys m) 5]) En36 Hv18 (fun hM39 => putname11 _ bk3 wa wc m bd x28 (by omega) (by omega) hM39) ?_
  rintro _ wo40 ⟨wa37, wc38, rfl, he41⟩
  refine ⟨_, _, [.box bk3 [.slice wa37 (List.length ((nmF (m, bd) x28).1)) wc38, .bool ((nmF (m, bd) x28).2)] 115, .vec wa37 wc38 1 (bys ((nmF (m, bd) x28).1)) 5, .box bw [.slice a (List.length l) c, .bool bad] 115, .vec a c 1 (bys l) 5], rfl, he41, by kernel_rfl, fun ac43 En44 Hv45 => ?_⟩
  refine f_e ?_
  refine block_normal ?_
  refine then_normal ?_
  refine d_r [0,1,2,4,10,15,16,17] [(0, g_n (w_a i 1))] En44 fun ac46 En47 => ?_
  refine then_normal ?_
  refine ⟨_, ⟨i + 1, wa37, wc38, ((nmF (m, bd) x28).1), ((nmF (m, bd) x28).2), rfl, En47.sb, Hv45.pk [2, 3, 0, 1], (by rw [allM_take hx27, ← hfo] <;> rfl)⟩, ?_⟩
  omega
 ·
  refine wp_exit ?_
  refine then_exit ?_
  refine then_exit ?_
  refine block_exit ?_
  refine then_normal ?_
  refine wp_seq ?_
  have hfe := allM_all (F := nmF) (f := (fun y : RStr => y)) (xs := xs) (i := i) (by omega)
  rw [← hfo] at hfe
  refine region_cut (F := fun ac wo => ∃ (b2 : Bool), Env ac 47 [(0, pt bw), (1, ni n), (2, ni x), (4, .func (.func 109) #[] #[]), (10, pt bk3), (15, .slice al (List.length xs) cl), (16, .int .i64 ((List.length xs : Nat) : Int)), (17, ni i)] ∧ Ev w [.box bw [.slice a (List.length l) c, .bool bad] 115, .vec a c 1 (bys l) 5] wo [.box bw [.slice a (List.length l) c, .bool b2] 115, .vec a c 1 (bys l) 5, .box bk3 [.slice wa (List.length m) wc, .bool bd] 115, .vec wa wc 1 (bys m) 5] ∧ (b2 = (bad || bd))) ?_ ?_
  ·
   refine region_from ?_
   refine d_k [0,1,2,4,10,15,16,17,26,29] [] 4 En21 fun ac48 En49 => ?_
   refine f_o ?_
   refine m_l 0 En49 Hv18 fun ac50 En51 => ?_
   refine d_k [0,1,2,4,10,15,16,17,26,31] [] 6 En51 fun ac52 En53 => ?_
   rcases Bool.eq_false_or_eq_true (bad) with hb54 | hb54
   ·
    have En55 := En53.fx (t := 31) (congrArg Value.bool hb54)
    have hp56 : bad = true := hb54
    refine d_k [0,1,2,4,10,15,16,17,36,38] [] 13 En55 fun ac57 En58 => ?_
    refine f_o ?_
    refine m_s 0 [.box bw [.slice a (List.length l) c, .bool true] 115, .vec a c 1 (bys l) 5, .box bk3 [.slice wa (List.length m) wc, .bool bd] 115, .vec wa wc 1 (bys m) 5] En58 Hv18 fun ac59 wo60 En61 Hv62 => ?_
    refine f_e ?_
    exact ⟨rfl, ⟨true, En61.sb, Hv62.pk [0, 1, 2, 3], (by first | exact or_t (by assumption) | exact or_f (by assumption))⟩⟩
   ·
    have En63 := En53.fx (t := 31) (congrArg Value.bool hb54)
    have hp64 : ¬ (bad = true) := Bool.eq_false_iff.1 hb54
    refine d_k [0,1,2,4,10,15,16,17,26,31,34] [] 9 En63 fun ac65 En66 => ?_
    refine f_o ?_
    refine m_l 2 En66 Hv18 fun ac67 En68 => ?_
    refine d_k [0,1,2,4,10,15,16,17,36,38] [] 13 En68 fun ac69 En70 => ?_
    refine f_o ?_
    refine m_s 0 [.box bw [.slice a (List.length l) c, .bool bd] 115, .vec a c 1 (bys l) 5, .box bk3 [.slice wa (List.length m) wc, .bool bd] 115, .vec wa wc 1 (bys m) 5] En70 Hv18 fun ac71 wo72 En73 Hv74 => ?_
    refine f_e ?_
    exact ⟨rfl, ⟨bd, En73.sb, Hv74.pk [0, 1, 2, 3], (by first | exact or_t (by assumption) | exact or_f (by assumption))⟩⟩
  ·
   rintro ac75 wo76 ⟨b2, En77, Hv78, hb2⟩
   refine then_normal ?_
   have hml := hfb (List.length xs) (Nat.le_refl _)
   rw [List.take_of_length_le (by rw [List.length_map]; exact Nat.le_refl _), ← hfe] at hml
   rw [← hfe] at hb
   refine region_from ?_
   refine d_k [0,4,10,15,16,17,39,40,41,44] [] 6 En77 fun ac79 En80 => ?_
   refine f_o ?_
   refine m_l 2 En80 Hv78 fun ac81 En82 => ?_
   refine f_o ?_
   refine c_l [0,1] (M := [.box bw [.slice a (List.length l) c, .bool b2] 115, .vec a c 1 (bys l) 5]) En82 Hv78 (fun hM85 => wlist_go _ bw a c l b2 n (by omega) x 16777215 (by omega) (by omega) wa wc m (bys_in Hv78.heap (k := 3) rfl [0, 1] (by kernel_rfl) rfl (by first | omega | (simp; done) | (simp; omega))) (by first | exact hb | omega) hM85) ?_
   rintro _ wo86 ⟨wa83, wc84, rfl, he87⟩
   refine ⟨_, _, [.box bw [.slice wa83 (List.length (wput n l m)) wc84, .bool (wbad n x 16777215 (List.length m) b2)] 115, .vec wa83 wc84 1 (bys (wput n l m)) 5, .box bk3 [.slice wa (List.length m) wc, .bool bd] 115, .vec wa wc 1 (bys m) 5], rfl, he87, by kernel_rfl, fun ac89 En90 Hv91 => ?_⟩
   refine f_e ?_
   refine d_end0 En90 (by kernel_rfl) ?_
   subst hb2
   rw [← hfe]
   exact ⟨wa83, wc84, rfl, Hv91.pk [0, 1]⟩

end Go.Proofs.Ytofecellbfhnjaa
