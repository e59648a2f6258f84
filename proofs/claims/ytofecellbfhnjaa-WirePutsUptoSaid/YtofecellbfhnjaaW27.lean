/- Layer 17: the document writes parts. -/
import Derived.Test.YtofecellbfhnjaaW24
namespace Go.Proofs.Ytofecellbfhnjaa
open Go.Dbr
set_option maxRecDepth 100000
set_option maxHeartbeats 2000000
set_option linter.unusedVariables false
set_option linter.unusedSimpArgs false

theorem dput_len (n x y : Nat) (l b : Bs) : (dput n x y l b).length ≤ l.length + n + b.length := by
  rw [dput]
  cases dbad n x y b.length with
  | true => rw [Bool.cond_true]; omega
  | false => rw [Bool.cond_false, wput_len]; exact Nat.le_refl _
def dalF (p : WS) (t : Bs) : WS := (dput 1 1 255 p.1 t, p.2 || dbad 1 1 255 t.length)
def dshF (p : WS) (x : UInt16 × Bs) : WS := (dput 2 1 65535 (p.1 ++ beN 2 x.1.toNat) x.2, p.2 || dbad 2 1 65535 x.2.length)
def dbytP (n y : Nat) (l b : Bs) : Bs := doneL (false || dbad n 1 y b.length) (dput n 1 y l b)
def dshP (x : UInt16 × Bs) : Bs := doneL (dshF ([], false) x).2 (dshF ([], false) x).1
def dnmP (t : Bs) : Bs := doneL ((false || (false || dbad 2 1 65535 t.length)) || dbad 2 1 16777215 (dput 2 1 65535 [0] t).length) (dput 2 1 16777215 [] (dput 2 1 65535 [0] t))

theorem dpartw_go (w : World) (bw : Nat) (a : Option Addr) (c : Nat) (l : Bs) (bad : Bool) (bp : Nat) (a2 : Option Addr) (c2 : Nat) (l2 : Bs) (bad2 : Bool) (n : Nat) (hn : n ≤ 4) (x : Nat) (hx : x ≤ 4294967295) (hb : List.length l + n + List.length l2 ≤ 140737489403904) (hH : Heap w [.box bw [.slice a (List.length l) c, .bool bad] 126, .vec a c 1 (bys l) 5, .box bp [.slice a2 (List.length l2) c2, .bool bad2] 126, .vec a2 c2 1 (bys l2) 5]) : Calls Try.prog 110 #[pt bw, ni n, ni x, pt bp] w fun e w' => ∃ a' c', e = .returned (.tuple #[]) ∧ Ev w [.box bw [.slice a (List.length l) c, .bool bad] 126, .vec a c 1 (bys l) 5, .box bp [.slice a2 (List.length l2) c2, .bool bad2] 126, .vec a2 c2 1 (bys l2) 5] w' [.box bw [.slice a' (List.length (dput n x 16777215 l l2)) c', .bool ((bad || bad2) || dbad n x 16777215 (List.length l2))] 126, .vec a' c' 1 (bys (dput n x 16777215 l l2)) 5, .box bp [.slice a2 (List.length l2) c2, .bool bad2] 126, .vec a2 c2 1 (bys l2) 5] := by
 refine d_0 [(0, pt bw), (1, ni n), (2, ni x), (3, pt bp)] 29 Go.Proofs.Try.func110 Go.Proofs.Try.ntmps110 (hH) fun act0 En0 Hv0 => ?_
 refine wp_seq ?_
 refine region_cut (F := fun ac wo => ∃ (b2 : Bool), Env ac 29 [(0, pt bw), (1, ni n), (2, ni x), (3, pt bp)] ∧ Ev w [.box bw [.slice a (List.length l) c, .bool bad] 126, .vec a c 1 (bys l) 5, .box bp [.slice a2 (List.length l2) c2, .bool bad2] 126, .vec a2 c2 1 (bys l2) 5] wo [.box bw [.slice a (List.length l) c, .bool b2] 126, .vec a c 1 (bys l) 5, .box bp [.slice a2 (List.length l2) c2, .bool bad2] 126, .vec a2 c2 1 (bys l2) 5] ∧ (b2 = (bad || bad2))) ?_ ?_
 ·
  refine region_from ?_
  refine d_k [0,1,2,3,8,11] [] 4 En0 fun ac1 En2 => ?_
  refine f_o ?_
  refine m_l 0 En2 Hv0 fun ac3 En4 => ?_
  refine d_k [0,1,2,3,8,13] [] 6 En4 fun ac5 En6 => ?_
  rcases Bool.eq_false_or_eq_true (bad) with hb7 | hb7
  ·
   have En8 := En6.fx (t := 13) (congrArg Value.bool hb7)
   have hp9 : bad = true := hb7
   refine d_k [0,1,2,3,18,20] [] 13 En8 fun ac10 En11 => ?_
   refine f_o ?_
   refine m_s 0 [.box bw [.slice a (List.length l) c, .bool true] 126, .vec a c 1 (bys l) 5, .box bp [.slice a2 (List.length l2) c2, .bool bad2] 126, .vec a2 c2 1 (bys l2) 5] En11 Hv0 fun ac12 wo13 En14 Hv15 => ?_
   refine f_e ?_
   exact ⟨rfl, ⟨true, En14.sb, Hv15.pk [0, 1, 2, 3], (by first | exact or_t (by assumption) | exact or_f (by assumption))⟩⟩
  ·
   have En16 := En6.fx (t := 13) (congrArg Value.bool hb7)
   have hp17 : ¬ (bad = true) := Bool.eq_false_iff.1 hb7
   refine d_k [0,1,2,3,8,13,16] [] 9 En16 fun ac18 En19 => ?_
   refine f_o ?_
   refine m_l 2 En19 Hv0 fun ac20 En21 => ?_
   refine d_k [0,1,2,3,18,20] [] 13 En21 fun ac22 En23 => ?_
   refine f_o ?_
   refine m_s 0 [.box bw [.slice a (List.length l) c, .bool bad2] 126, .vec a c 1 (bys l) 5, .box bp [.slice a2 (List.length l2) c2, .bool bad2] 126, .vec a2 c2 1 (bys l2) 5] En23 Hv0 fun ac24 wo25 En26 Hv27 => ?_
   refine f_e ?_
   exact ⟨rfl, ⟨bad2, En26.sb, Hv27.pk [0, 1, 2, 3], (by first | exact or_t (by assumption) | exact or_f (by assumption))⟩⟩
 ·
  rintro ac28 wo29 ⟨b2, En30, Hv31, hb2⟩
  refine then_normal ?_
  refine region_from ?_
  refine d_k [0,3,21,22,23,26] [] 6 En30 fun ac32 En33 => ?_
  refine f_o ?_
  refine m_l 2 En33 Hv31 fun ac34 En35 => ?_
  refine f_o ?_
  refine c_l [0,1] (M := [.box bw [.slice a (List.length l) c, .bool b2] 126, .vec a c 1 (bys l) 5]) En35 Hv31 (fun hM38 => dwlist_go _ bw a c l b2 n (by omega) x 16777215 (by omega) (by omega) a2 c2 l2 (bys_in Hv31.heap (k := 3) rfl [0, 1] (by kernel_rfl) rfl (by first | omega | (simp; done) | (simp; omega))) (by first | omega | (simp [wput_len, beN_len]; done) | (simp [wput_len, beN_len]; omega)) hM38) ?_
  rintro _ wo39 ⟨wa36, wc37, rfl, he40⟩
  refine ⟨_, _, [.box bw [.slice wa36 (List.length (dput n x 16777215 l l2)) wc37, .bool (b2 || dbad n x 16777215 (List.length l2))] 126, .vec wa36 wc37 1 (bys (dput n x 16777215 l l2)) 5, .box bp [.slice a2 (List.length l2) c2, .bool bad2] 126, .vec a2 c2 1 (bys l2) 5], rfl, he40, by kernel_rfl, fun ac42 En43 Hv44 => ?_⟩
  refine f_e ?_
  refine d_end0 En43 (by kernel_rfl) ?_
  subst hb2
  exact ⟨wa36, wc37, rfl, Hv44.pk [0, 1, 2, 3]⟩

end Go.Proofs.Ytofecellbfhnjaa
