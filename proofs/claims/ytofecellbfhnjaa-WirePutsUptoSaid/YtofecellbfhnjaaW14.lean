/- Layer 17: the document reads bytes, numbers, a host's name. -/
import Derived.Test.YtofecellbfhnjaaW13
namespace Go.Proofs.Ytofecellbfhnjaa
open Go.Dbr
set_option maxRecDepth 100000
set_option maxHeartbeats 2000000
set_option linter.unusedVariables false
set_option linter.unusedSimpArgs false

def dlistM (n x y : Nat) (l : Bs) (s o : Bool) : Bs × PS := (ldO n x y l s, ldR n x y l s, ldS n x y l s, o)
def dstM (l : Bs) (s o : Bool) : Bs × PS := (ldO 3 1 16777215 (dkR 1 l s) (tkS 1 l s), ldR 3 1 16777215 (dkR 1 l s) (tkS 1 l s), ldS 3 1 16777215 (dkR 1 l s) (tkS 1 l s), ((nbV 1 l s : Nat) : Int) != (1 : Int))
def dnmO (l : Bs) (s : Bool) : Bs := dkR 1 (ldO 2 0 65535 l s) (ldS 2 0 65535 l s)
def dnmT (l : Bs) (s : Bool) : Bool := tkS 1 (ldO 2 0 65535 l s) (ldS 2 0 65535 l s)
def dnmM (l : Bs) (s o : Bool) : Bs × PS := (ldO 2 1 65535 (dnmO l s) (dnmT l s), ldR 2 0 65535 l s, ldS 2 0 65535 l s || (ldS 2 1 65535 (dnmO l s) (dnmT l s) || decide (0 < (ldR 2 1 65535 (dnmO l s) (dnmT l s)).length)), o || (((nbV 1 (ldO 2 0 65535 l s) (ldS 2 0 65535 l s) : Nat) : Int) != (0 : Int)))
theorem more_t {s : Bool} {n : Nat} (h : s = false ∧ 0 < n) : (s || decide (0 < n)) = true := by rw [decide_eq_true h.2, Bool.or_true]
theorem more_f {s : Bool} {n : Nat} (h : ¬ (s = false ∧ 0 < n)) : (s || decide (0 < n)) = s := by
  cases s with
  | true => rfl
  | false => exact decide_eq_false fun g => h ⟨rfl, g⟩

theorem dgetmodes_go (w : World) (aq : Option Addr) (nq cq : Nat) (lq : List UInt8) (eq : nq = List.length lq) (iq : InB w [] aq cq lq) : Calls Try.prog 52 #[.slice aq nq cq] w fun e w' => ∃ oa oc bl, e = .returned (.tuple #[.slice oa (List.length bl) oc, .int .i64 (gotA (dlistM 1 1 255 lq false false))]) ∧ Ev w [] w' [.vec oa oc 1 (bys bl) 5] ∧ bl = gotV [] (dlistM 1 1 255 lq false false) := by
 subst eq
 refine d_0 [(0, .slice aq (List.length lq) cq)] 19 Go.Proofs.Try.func52 Go.Proofs.Try.ntmps52 (Heap.nil _) fun act0 En0 Hv0 => ?_
 refine d_s [0,2,3] [] En0 fun ac1 En2 => ?_
 refine wp_seq ?_
 refine region_from ?_
 refine d_k [2,3,8] [] 2 En2 fun ac3 En4 => ?_
 refine f_o ?_
 refine m_m 154 [.slice aq (List.length lq) cq, .bool false, .bool false] En4 Hv0 fun ac6 wo7 bk5 En8 Hv9 => ?_
 refine d_e [2,3,4] [] En8 fun ac10 En11 => ?_
 refine then_normal ?_
 refine wp_seq ?_
 refine region_from ?_
 refine d_k [2,3,4,10] [] 1 En11 fun ac12 En13 => ?_
 refine f_o ?_
 refine c_l [0] (M := [.box bk5 [.slice aq (List.length lq) cq, .bool false, .bool false] 154]) En13 Hv9 (fun hM19 => dlist_go _ bk5 1 (by omega) 1 255 (by omega) (by omega) aq cq lq false false ((iq.ev Hv9).pick [0] (by kernel_rfl)) hM19) ?_
 rintro _ wo20 ⟨ao14, cp15, ta16, tc17, rfl, he21, hs18⟩
 refine ⟨_, _, [.box bk5 [.slice ta16 (List.length (ldR 1 1 255 lq false)) tc17, .bool (ldS 1 1 255 lq false), .bool false] 154, .vec ao14 cp15 1 (bys (ldO 1 1 255 lq false)) 5], rfl, he21, by kernel_rfl, fun ac23 En24 Hv25 => ?_⟩
 refine d_e [2,3,4,5] [] En24 fun ac26 En27 => ?_
 refine then_normal ?_
 refine wp_seq ?_
 refine region_from ?_
 refine d_k [2,3,4,5,12] [] 1 En27 fun ac28 En29 => ?_
 refine f_o ?_
 refine c_l [0] (M := [.box bk5 [.slice ta16 (List.length (ldR 1 1 255 lq false)) tc17, .bool (ldS 1 1 255 lq false), .bool false] 154]) En29 Hv25 (fun hM30 => dend_go _ bk5 ta16 (List.length (ldR 1 1 255 lq false)) tc17 (ldS 1 1 255 lq false) false hM30) ?_
 rintro _ wo31 ⟨rfl, he32⟩
 refine ⟨_, _, [.box bk5 [.slice ta16 (List.length (ldR 1 1 255 lq false)) tc17, .bool (ldS 1 1 255 lq false), .bool false] 154, .vec ao14 cp15 1 (bys (ldO 1 1 255 lq false)) 5], rfl, he32, by kernel_rfl, fun ac34 En35 Hv36 => ?_⟩
 refine d_e [2,3,4,5,6] [] En35 fun ac37 En38 => ?_
 refine then_normal ?_
 refine wp_seq ?_
 refine d_s [2,3,4,5,6,15] [] En38 fun ac39 En40 => ?_
 refine c_n (endV (ldS 1 1 255 lq false) (List.length (ldR 1 1 255 lq false)) false) (0 : Int) En40 (fun hc41 => ?_) (fun hc41 => ?_)
 ·
  refine d_s [2,3,4,5,6] [] En40 fun ac42 En43 => ?_
  refine wp_ret ?_
  refine then_ret ?_
  refine d_ret2 (t := 2) (u := 3) (v := .slice none 0 0) (x := .int .i64 (endV (ldS 1 1 255 lq false) (List.length (ldR 1 1 255 lq false)) false)) En43 (by kernel_rfl) (by kernel_rfl) (by kernel_rfl) ?_
  have eA : gotA (dlistM 1 1 255 lq false false) = endV (ldS 1 1 255 lq false) (List.length (ldR 1 1 255 lq false)) false := rfl
  rw [gotV_n eA (by assumption), eA]
  have Hv44 : Ev w [] wo31 [.box bk5 [.slice ta16 (List.length (ldR 1 1 255 lq false)) tc17, .bool (ldS 1 1 255 lq false), .bool false] 154, .vec ao14 cp15 1 (bys (ldO 1 1 255 lq false)) 5, .vec none 0 1 (bys []) 5] := Ev.nil (sz := 1) (T := 5) Hv36
  exact ⟨none, 0, [], rfl, Hv44.pk [2], rfl⟩
 ·
  refine wp_skip ?_
  refine then_normal ?_
  refine d_s [2,3,4,6] [] En40 fun ac45 En46 => ?_
  refine wp_ret ?_
  refine d_ret2 (t := 2) (u := 3) (v := .slice ao14 (List.length (ldO 1 1 255 lq false)) cp15) (x := .int .i64 (endV (ldS 1 1 255 lq false) (List.length (ldR 1 1 255 lq false)) false)) En46 (by kernel_rfl) (by kernel_rfl) (by kernel_rfl) ?_
  have eA : gotA (dlistM 1 1 255 lq false false) = endV (ldS 1 1 255 lq false) (List.length (ldR 1 1 255 lq false)) false := rfl
  rw [gotV_0 (eA.trans (by first | assumption | exact Classical.not_not.1 (by assumption))), eA]
  exact ⟨ao14, cp15, (ldO 1 1 255 lq false), rfl, Hv36.pk [1], rfl⟩

theorem dgetcookie_go (w : World) (aq : Option Addr) (nq cq : Nat) (lq : List UInt8) (eq : nq = List.length lq) (iq : InB w [] aq cq lq) : Calls Try.prog 64 #[.slice aq nq cq] w fun e w' => ∃ oa oc bl, e = .returned (.tuple #[.slice oa (List.length bl) oc, .int .i64 (gotA (dlistM 2 1 65535 lq false false))]) ∧ Ev w [] w' [.vec oa oc 1 (bys bl) 5] ∧ bl = gotV [] (dlistM 2 1 65535 lq false false) := by
 subst eq
 refine d_0 [(0, .slice aq (List.length lq) cq)] 19 Go.Proofs.Try.func64 Go.Proofs.Try.ntmps64 (Heap.nil _) fun act0 En0 Hv0 => ?_
 refine d_s [0,2,3] [] En0 fun ac1 En2 => ?_
 refine wp_seq ?_
 refine region_from ?_
 refine d_k [2,3,8] [] 2 En2 fun ac3 En4 => ?_
 refine f_o ?_
 refine m_m 154 [.slice aq (List.length lq) cq, .bool false, .bool false] En4 Hv0 fun ac6 wo7 bk5 En8 Hv9 => ?_
 refine d_e [2,3,4] [] En8 fun ac10 En11 => ?_
 refine then_normal ?_
 refine wp_seq ?_
 refine region_from ?_
 refine d_k [2,3,4,10] [] 1 En11 fun ac12 En13 => ?_
 refine f_o ?_
 refine c_l [0] (M := [.box bk5 [.slice aq (List.length lq) cq, .bool false, .bool false] 154]) En13 Hv9 (fun hM19 => dlist_go _ bk5 2 (by omega) 1 65535 (by omega) (by omega) aq cq lq false false ((iq.ev Hv9).pick [0] (by kernel_rfl)) hM19) ?_
 rintro _ wo20 ⟨ao14, cp15, ta16, tc17, rfl, he21, hs18⟩
 refine ⟨_, _, [.box bk5 [.slice ta16 (List.length (ldR 2 1 65535 lq false)) tc17, .bool (ldS 2 1 65535 lq false), .bool false] 154, .vec ao14 cp15 1 (bys (ldO 2 1 65535 lq false)) 5], rfl, he21, by kernel_rfl, fun ac23 En24 Hv25 => ?_⟩
 refine d_e [2,3,4,5] [] En24 fun ac26 En27 => ?_
 refine then_normal ?_
 refine wp_seq ?_
 refine region_from ?_
 refine d_k [2,3,4,5,12] [] 1 En27 fun ac28 En29 => ?_
 refine f_o ?_
 refine c_l [0] (M := [.box bk5 [.slice ta16 (List.length (ldR 2 1 65535 lq false)) tc17, .bool (ldS 2 1 65535 lq false), .bool false] 154]) En29 Hv25 (fun hM30 => dend_go _ bk5 ta16 (List.length (ldR 2 1 65535 lq false)) tc17 (ldS 2 1 65535 lq false) false hM30) ?_
 rintro _ wo31 ⟨rfl, he32⟩
 refine ⟨_, _, [.box bk5 [.slice ta16 (List.length (ldR 2 1 65535 lq false)) tc17, .bool (ldS 2 1 65535 lq false), .bool false] 154, .vec ao14 cp15 1 (bys (ldO 2 1 65535 lq false)) 5], rfl, he32, by kernel_rfl, fun ac34 En35 Hv36 => ?_⟩
 refine d_e [2,3,4,5,6] [] En35 fun ac37 En38 => ?_
 refine then_normal ?_
 refine wp_seq ?_
 refine d_s [2,3,4,5,6,15] [] En38 fun ac39 En40 => ?_
 refine c_n (endV (ldS 2 1 65535 lq false) (List.length (ldR 2 1 65535 lq false)) false) (0 : Int) En40 (fun hc41 => ?_) (fun hc41 => ?_)
 ·
  refine d_s [2,3,4,5,6] [] En40 fun ac42 En43 => ?_
  refine wp_ret ?_
  refine then_ret ?_
  refine d_ret2 (t := 2) (u := 3) (v := .slice none 0 0) (x := .int .i64 (endV (ldS 2 1 65535 lq false) (List.length (ldR 2 1 65535 lq false)) false)) En43 (by kernel_rfl) (by kernel_rfl) (by kernel_rfl) ?_
  have eA : gotA (dlistM 2 1 65535 lq false false) = endV (ldS 2 1 65535 lq false) (List.length (ldR 2 1 65535 lq false)) false := rfl
  rw [gotV_n eA (by assumption), eA]
  have Hv44 : Ev w [] wo31 [.box bk5 [.slice ta16 (List.length (ldR 2 1 65535 lq false)) tc17, .bool (ldS 2 1 65535 lq false), .bool false] 154, .vec ao14 cp15 1 (bys (ldO 2 1 65535 lq false)) 5, .vec none 0 1 (bys []) 5] := Ev.nil (sz := 1) (T := 5) Hv36
  exact ⟨none, 0, [], rfl, Hv44.pk [2], rfl⟩
 ·
  refine wp_skip ?_
  refine then_normal ?_
  refine d_s [2,3,4,6] [] En40 fun ac45 En46 => ?_
  refine wp_ret ?_
  refine d_ret2 (t := 2) (u := 3) (v := .slice ao14 (List.length (ldO 2 1 65535 lq false)) cp15) (x := .int .i64 (endV (ldS 2 1 65535 lq false) (List.length (ldR 2 1 65535 lq false)) false)) En46 (by kernel_rfl) (by kernel_rfl) (by kernel_rfl) ?_
  have eA : gotA (dlistM 2 1 65535 lq false false) = endV (ldS 2 1 65535 lq false) (List.length (ldR 2 1 65535 lq false)) false := rfl
  rw [gotV_0 (eA.trans (by first | assumption | exact Classical.not_not.1 (by assumption))), eA]
  exact ⟨ao14, cp15, (ldO 2 1 65535 lq false), rfl, Hv36.pk [1], rfl⟩

theorem dgetstatus_go (w : World) (aq : Option Addr) (nq cq : Nat) (lq : List UInt8) (eq : nq = List.length lq) (iq : InB w [] aq cq lq) : Calls Try.prog 66 #[.slice aq nq cq] w fun e w' => ∃ oa oc bl, e = .returned (.tuple #[.slice oa (List.length bl) oc, .int .i64 (gotA (dstM lq false false))]) ∧ Ev w [] w' [.vec oa oc 1 (bys bl) 5] ∧ bl = gotV [] (dstM lq false false) := by
 subst eq
 refine d_0 [(0, .slice aq (List.length lq) cq)] 25 Go.Proofs.Try.func66 Go.Proofs.Try.ntmps66 (Heap.nil _) fun act0 En0 Hv0 => ?_
 refine d_s [0,2,3] [] En0 fun ac1 En2 => ?_
 refine wp_seq ?_
 refine region_from ?_
 refine d_k [2,3,8] [] 2 En2 fun ac3 En4 => ?_
 refine f_o ?_
 refine m_m 154 [.slice aq (List.length lq) cq, .bool false, .bool false] En4 Hv0 fun ac6 wo7 bk5 En8 Hv9 => ?_
 refine d_e [2,3,4] [] En8 fun ac10 En11 => ?_
 refine then_normal ?_
 refine wp_seq ?_
 refine region_from ?_
 refine d_k [2,3,4,10,11] [] 2 En11 fun ac12 En13 => ?_
 refine f_o ?_
 refine c_l [0] (M := [.box bk5 [.slice aq (List.length lq) cq, .bool false, .bool false] 154]) En13 Hv9 (fun hM17 => dnumber_go _ bk5 1 (by omega) aq cq lq false false ((iq.ev Hv9).pick [0] (by kernel_rfl)) hM17) ?_
 rintro _ wo18 ⟨ta14, tc15, rfl, he19, hs16⟩
 refine ⟨_, _, [.box bk5 [.slice ta14 (List.length (dkR 1 lq false)) tc15, .bool (tkS 1 lq false), .bool false] 154], rfl, he19, by kernel_rfl, fun ac21 En22 Hv23 => ?_⟩
 refine d_k [2,3,4,13,15] [] 6 En22 fun ac24 En25 => ?_
 refine f_o ?_
 refine m_s 0 [.box bk5 [.slice ta14 (List.length (dkR 1 lq false)) tc15, .bool (tkS 1 lq false), .bool (((nbV 1 lq false : Nat) : Int) != (1 : Int))] 154] En25 Hv23 fun ac26 wo27 En28 Hv29 => ?_
 refine f_e ?_
 refine then_normal ?_
 refine wp_seq ?_
 refine region_from ?_
 refine d_k [2,3,4,16] [] 1 En28 fun ac30 En31 => ?_
 refine f_o ?_
 refine c_l [0] (M := [.box bk5 [.slice ta14 (List.length (dkR 1 lq false)) tc15, .bool (tkS 1 lq false), .bool (((nbV 1 lq false : Nat) : Int) != (1 : Int))] 154]) En31 Hv29 (fun hM37 => dlist_go _ bk5 3 (by omega) 1 16777215 (by omega) (by omega) ta14 tc15 (dkR 1 lq false) (tkS 1 lq false) (((nbV 1 lq false : Nat) : Int) != (1 : Int)) (hs16 _ _ ((iq.ev Hv29).pick [0] (by kernel_rfl))) hM37) ?_
 rintro _ wo38 ⟨ao32, cp33, ta34, tc35, rfl, he39, hs36⟩
 refine ⟨_, _, [.box bk5 [.slice ta34 (List.length (ldR 3 1 16777215 (dkR 1 lq false) (tkS 1 lq false))) tc35, .bool (ldS 3 1 16777215 (dkR 1 lq false) (tkS 1 lq false)), .bool (((nbV 1 lq false : Nat) : Int) != (1 : Int))] 154, .vec ao32 cp33 1 (bys (ldO 3 1 16777215 (dkR 1 lq false) (tkS 1 lq false))) 5], rfl, he39, by kernel_rfl, fun ac41 En42 Hv43 => ?_⟩
 refine d_e [2,3,4,5] [] En42 fun ac44 En45 => ?_
 refine then_normal ?_
 refine wp_seq ?_
 refine region_from ?_
 refine d_k [2,3,4,5,18] [] 1 En45 fun ac46 En47 => ?_
 refine f_o ?_
 refine c_l [0] (M := [.box bk5 [.slice ta34 (List.length (ldR 3 1 16777215 (dkR 1 lq false) (tkS 1 lq false))) tc35, .bool (ldS 3 1 16777215 (dkR 1 lq false) (tkS 1 lq false)), .bool (((nbV 1 lq false : Nat) : Int) != (1 : Int))] 154]) En47 Hv43 (fun hM48 => dend_go _ bk5 ta34 (List.length (ldR 3 1 16777215 (dkR 1 lq false) (tkS 1 lq false))) tc35 (ldS 3 1 16777215 (dkR 1 lq false) (tkS 1 lq false)) (((nbV 1 lq false : Nat) : Int) != (1 : Int)) hM48) ?_
 rintro _ wo49 ⟨rfl, he50⟩
 refine ⟨_, _, [.box bk5 [.slice ta34 (List.length (ldR 3 1 16777215 (dkR 1 lq false) (tkS 1 lq false))) tc35, .bool (ldS 3 1 16777215 (dkR 1 lq false) (tkS 1 lq false)), .bool (((nbV 1 lq false : Nat) : Int) != (1 : Int))] 154, .vec ao32 cp33 1 (bys (ldO 3 1 16777215 (dkR 1 lq false) (tkS 1 lq false))) 5], rfl, he50, by kernel_rfl, fun ac52 En53 Hv54 => ?_⟩
 refine d_e [2,3,4,5,6] [] En53 fun ac55 En56 => ?_
 refine then_normal ?_
 refine wp_seq ?_
 refine d_s [2,3,4,5,6,21] [] En56 fun ac57 En58 => ?_
 refine c_n (endV (ldS 3 1 16777215 (dkR 1 lq false) (tkS 1 lq false)) (List.length (ldR 3 1 16777215 (dkR 1 lq false) (tkS 1 lq false))) (((nbV 1 lq false : Nat) : Int) != (1 : Int))) (0 : Int) En58 (fun hc59 => ?_) (fun hc59 => ?_)
 ·
  refine d_s [2,3,4,5,6] [] En58 fun ac60 En61 => ?_
  refine wp_ret ?_
  refine then_ret ?_
  refine d_ret2 (t := 2) (u := 3) (v := .slice none 0 0) (x := .int .i64 (endV (ldS 3 1 16777215 (dkR 1 lq false) (tkS 1 lq false)) (List.length (ldR 3 1 16777215 (dkR 1 lq false) (tkS 1 lq false))) (((nbV 1 lq false : Nat) : Int) != (1 : Int)))) En61 (by kernel_rfl) (by kernel_rfl) (by kernel_rfl) ?_
  have eA : gotA (dstM lq false false) = endV (ldS 3 1 16777215 (dkR 1 lq false) (tkS 1 lq false)) (List.length (ldR 3 1 16777215 (dkR 1 lq false) (tkS 1 lq false))) (((nbV 1 lq false : Nat) : Int) != (1 : Int)) := rfl
  rw [gotV_n eA (by assumption), eA]
  have Hv62 : Ev w [] wo49 [.box bk5 [.slice ta34 (List.length (ldR 3 1 16777215 (dkR 1 lq false) (tkS 1 lq false))) tc35, .bool (ldS 3 1 16777215 (dkR 1 lq false) (tkS 1 lq false)), .bool (((nbV 1 lq false : Nat) : Int) != (1 : Int))] 154, .vec ao32 cp33 1 (bys (ldO 3 1 16777215 (dkR 1 lq false) (tkS 1 lq false))) 5, .vec none 0 1 (bys []) 5] := Ev.nil (sz := 1) (T := 5) Hv54
  exact ⟨none, 0, [], rfl, Hv62.pk [2], rfl⟩
 ·
  refine wp_skip ?_
  refine then_normal ?_
  refine d_s [2,3,4,6] [] En58 fun ac63 En64 => ?_
  refine wp_ret ?_
  refine d_ret2 (t := 2) (u := 3) (v := .slice ao32 (List.length (ldO 3 1 16777215 (dkR 1 lq false) (tkS 1 lq false))) cp33) (x := .int .i64 (endV (ldS 3 1 16777215 (dkR 1 lq false) (tkS 1 lq false)) (List.length (ldR 3 1 16777215 (dkR 1 lq false) (tkS 1 lq false))) (((nbV 1 lq false : Nat) : Int) != (1 : Int)))) En64 (by kernel_rfl) (by kernel_rfl) (by kernel_rfl) ?_
  have eA : gotA (dstM lq false false) = endV (ldS 3 1 16777215 (dkR 1 lq false) (tkS 1 lq false)) (List.length (ldR 3 1 16777215 (dkR 1 lq false) (tkS 1 lq false))) (((nbV 1 lq false : Nat) : Int) != (1 : Int)) := rfl
  rw [gotV_0 (eA.trans (by first | assumption | exact Classical.not_not.1 (by assumption))), eA]
  exact ⟨ao32, cp33, (ldO 3 1 16777215 (dkR 1 lq false) (tkS 1 lq false)), rfl, Hv54.pk [1], rfl⟩

theorem dgetnumber_go (w : World) (aq : Option Addr) (nq cq : Nat) (lq : List UInt8) (eq : nq = List.length lq) (iq : InB w [] aq cq lq) : Calls Try.prog 59 #[.slice aq nq cq] w fun e w' => ∃ xv, e = .returned (.tuple #[uv16 xv, .int .i64 (gotA (du16M lq false false))]) ∧ Ev w [] w' [] ∧ xv = gotV 0 (du16M lq false false) := by
 subst eq
 refine d_0 [(0, .slice aq (List.length lq) cq)] 20 Go.Proofs.Try.func59 Go.Proofs.Try.ntmps59 (Heap.nil _) fun act0 En0 Hv0 => ?_
 refine d_s [0,2,3] [] En0 fun ac1 En2 => ?_
 refine wp_seq ?_
 refine region_from ?_
 refine d_k [2,3,8] [] 2 En2 fun ac3 En4 => ?_
 refine f_o ?_
 refine m_m 154 [.slice aq (List.length lq) cq, .bool false, .bool false] En4 Hv0 fun ac6 wo7 bk5 En8 Hv9 => ?_
 refine d_e [2,3,4] [] En8 fun ac10 En11 => ?_
 refine then_normal ?_
 refine wp_seq ?_
 refine region_from ?_
 refine d_k [2,3,4,10] [] 1 En11 fun ac12 En13 => ?_
 refine f_o ?_
 refine c_l [0] (M := [.box bk5 [.slice aq (List.length lq) cq, .bool false, .bool false] 154]) En13 Hv9 (fun hM17 => dnumber_go _ bk5 2 (by omega) aq cq lq false false ((iq.ev Hv9).pick [0] (by kernel_rfl)) hM17) ?_
 rintro _ wo18 ⟨ta14, tc15, rfl, he19, hs16⟩
 refine ⟨_, _, [.box bk5 [.slice ta14 (List.length (dkR 2 lq false)) tc15, .bool (tkS 2 lq false), .bool false] 154], rfl, he19, by kernel_rfl, fun ac21 En22 Hv23 => ?_⟩
 refine d_e [2,3,4,5] [(2, g_i .u16 (Go.Dbr.nat_to_u16 (a := ((nbV 2 lq false : Nat) : Int)) (n := nbV 2 lq false) rfl))] En22 fun ac24 En25 => ?_
 refine then_normal ?_
 refine wp_seq ?_
 refine region_from ?_
 refine d_k [2,3,4,5,13] [] 1 En25 fun ac26 En27 => ?_
 refine f_o ?_
 refine c_l [0] (M := [.box bk5 [.slice ta14 (List.length (dkR 2 lq false)) tc15, .bool (tkS 2 lq false), .bool false] 154]) En27 Hv23 (fun hM28 => dend_go _ bk5 ta14 (List.length (dkR 2 lq false)) tc15 (tkS 2 lq false) false hM28) ?_
 rintro _ wo29 ⟨rfl, he30⟩
 refine ⟨_, _, [.box bk5 [.slice ta14 (List.length (dkR 2 lq false)) tc15, .bool (tkS 2 lq false), .bool false] 154], rfl, he30, by kernel_rfl, fun ac32 En33 Hv34 => ?_⟩
 refine d_e [2,3,4,5,6] [] En33 fun ac35 En36 => ?_
 refine then_normal ?_
 refine wp_seq ?_
 refine d_s [2,3,4,5,6,16] [] En36 fun ac37 En38 => ?_
 refine c_n (endV (tkS 2 lq false) (List.length (dkR 2 lq false)) false) (0 : Int) En38 (fun hc39 => ?_) (fun hc39 => ?_)
 ·
  refine d_s [2,3,4,5,6] [] En38 fun ac40 En41 => ?_
  refine wp_ret ?_
  refine then_ret ?_
  refine d_ret2 (t := 2) (u := 3) (v := .int .u16 0) (x := .int .i64 (endV (tkS 2 lq false) (List.length (dkR 2 lq false)) false)) En41 (by kernel_rfl) (by kernel_rfl) (by kernel_rfl) ?_
  have eA : gotA (du16M lq false false) = endV (tkS 2 lq false) (List.length (dkR 2 lq false)) false := rfl
  rw [gotV_n eA (by assumption), eA]
  exact ⟨0, rfl, Hv34.pk [], rfl⟩
 ·
  refine wp_skip ?_
  refine then_normal ?_
  refine d_s [2,3,4,6] [] En38 fun ac42 En43 => ?_
  refine wp_ret ?_
  refine d_ret2 (t := 2) (u := 3) (v := .int .u16 ((UInt16.toNat (UInt16.ofNat (nbV 2 lq false)) : Nat) : Int)) (x := .int .i64 (endV (tkS 2 lq false) (List.length (dkR 2 lq false)) false)) En43 (by kernel_rfl) (by kernel_rfl) (by kernel_rfl) ?_
  have eA : gotA (du16M lq false false) = endV (tkS 2 lq false) (List.length (dkR 2 lq false)) false := rfl
  rw [gotV_0 (eA.trans (by first | assumption | exact Classical.not_not.1 (by assumption))), eA]
  exact ⟨(UInt16.ofNat (nbV 2 lq false)), rfl, Hv34.pk [], rfl⟩

theorem dgetname_go (w : World) (aq : Option Addr) (nq cq : Nat) (lq : List UInt8) (eq : nq = List.length lq) (iq : InB w [] aq cq lq) : Calls Try.prog 42 #[.slice aq nq cq] w fun e w' => ∃ bl, e = .returned (.tuple #[.string (bstr bl), .int .i64 (gotA (dnmM lq false false))]) ∧ Ev w [] w' [] ∧ bl = gotV [] (dnmM lq false false) := by
 subst eq
 have hO32 := ldO_32 (n := 2) (x := 0) (y := 65535) (by decide) lq false
 have hT32 := dkR_len 1 (ldO 2 0 65535 lq false) (ldS 2 0 65535 lq false)
 refine d_0 [(0, .slice aq (List.length lq) cq)] 37 Go.Proofs.Try.func42 Go.Proofs.Try.ntmps42 (Heap.nil _) fun act0 En0 Hv0 => ?_
 refine d_s [0,2,3] [] En0 fun ac1 En2 => ?_
 refine wp_seq ?_
 refine region_from ?_
 refine d_k [2,3,9] [] 2 En2 fun ac3 En4 => ?_
 refine f_o ?_
 refine m_m 154 [.slice aq (List.length lq) cq, .bool false, .bool false] En4 Hv0 fun ac6 wo7 bk5 En8 Hv9 => ?_
 refine d_e [2,3,4] [] En8 fun ac10 En11 => ?_
 refine then_normal ?_
 refine wp_seq ?_
 refine region_from ?_
 refine d_k [2,3,4,11] [] 1 En11 fun ac12 En13 => ?_
 refine f_o ?_
 refine c_l [0] (M := [.box bk5 [.slice aq (List.length lq) cq, .bool false, .bool false] 154]) En13 Hv9 (fun hM20 => dpart_go _ bk5 2 (by omega) 0 65535 (by omega) (by omega) aq cq lq false false ((iq.ev Hv9).pick [0] (by kernel_rfl)) hM20) ?_
 rintro _ wo21 ⟨bp14, ao15, cp16, ta17, tc18, rfl, he22, hs19⟩
 refine ⟨_, _, [.box bk5 [.slice ta17 (List.length (ldR 2 0 65535 lq false)) tc18, .bool (ldS 2 0 65535 lq false), .bool false] 154, .box bp14 [.slice ao15 (List.length (ldO 2 0 65535 lq false)) cp16, .bool (ldS 2 0 65535 lq false), .bool false] 154, .vec ao15 cp16 1 (bys (ldO 2 0 65535 lq false)) 5], rfl, he22, by kernel_rfl, fun ac24 En25 Hv26 => ?_⟩
 refine d_e [2,3,4,5] [] En25 fun ac27 En28 => ?_
 refine then_normal ?_
 refine wp_seq ?_
 refine region_from ?_
 refine d_k [2,3,4,5,13,14] [] 2 En28 fun ac29 En30 => ?_
 refine f_o ?_
 refine c_l [1] (M := [.box bp14 [.slice ao15 (List.length (ldO 2 0 65535 lq false)) cp16, .bool (ldS 2 0 65535 lq false), .bool false] 154]) En30 Hv26 (fun hM34 => dnumber_go _ bp14 1 (by omega) ao15 cp16 (ldO 2 0 65535 lq false) (ldS 2 0 65535 lq false) false (bys_in Hv26.heap (k := 2) rfl [1] (by kernel_rfl) rfl (by first | omega | (simp; done) | (simp; omega))) hM34) ?_
 rintro _ wo35 ⟨ta31, tc32, rfl, he36, hs33⟩
 refine ⟨_, _, [.box bp14 [.slice ta31 (List.length (dkR 1 (ldO 2 0 65535 lq false) (ldS 2 0 65535 lq false))) tc32, .bool (tkS 1 (ldO 2 0 65535 lq false) (ldS 2 0 65535 lq false)), .bool false] 154, .box bk5 [.slice ta17 (List.length (ldR 2 0 65535 lq false)) tc18, .bool (ldS 2 0 65535 lq false), .bool false] 154, .vec ao15 cp16 1 (bys (ldO 2 0 65535 lq false)) 5], rfl, he36, by kernel_rfl, fun ac38 En39 Hv40 => ?_⟩
 refine d_k [2,3,4,5,16,18] [] 6 En39 fun ac41 En42 => ?_
 refine f_o ?_
 refine m_s 0 [.box bp14 [.slice ta31 (List.length (dkR 1 (ldO 2 0 65535 lq false) (ldS 2 0 65535 lq false))) tc32, .bool (tkS 1 (ldO 2 0 65535 lq false) (ldS 2 0 65535 lq false)), .bool (((nbV 1 (ldO 2 0 65535 lq false) (ldS 2 0 65535 lq false) : Nat) : Int) != (0 : Int))] 154, .box bk5 [.slice ta17 (List.length (ldR 2 0 65535 lq false)) tc18, .bool (ldS 2 0 65535 lq false), .bool false] 154, .vec ao15 cp16 1 (bys (ldO 2 0 65535 lq false)) 5] En42 Hv40 fun ac43 wo44 En45 Hv46 => ?_
 refine f_e ?_
 refine then_normal ?_
 refine wp_seq ?_
 refine region_from ?_
 refine d_k [2,3,4,5,19] [] 1 En45 fun ac47 En48 => ?_
 refine f_o ?_
 refine c_l [0] (M := [.box bp14 [.slice ta31 (List.length (dkR 1 (ldO 2 0 65535 lq false) (ldS 2 0 65535 lq false))) tc32, .bool (tkS 1 (ldO 2 0 65535 lq false) (ldS 2 0 65535 lq false)), .bool (((nbV 1 (ldO 2 0 65535 lq false) (ldS 2 0 65535 lq false) : Nat) : Int) != (0 : Int))] 154]) En48 Hv46 (fun hM54 => dlist_go _ bp14 2 (by omega) 1 65535 (by omega) (by omega) ta31 tc32 (dkR 1 (ldO 2 0 65535 lq false) (ldS 2 0 65535 lq false)) (tkS 1 (ldO 2 0 65535 lq false) (ldS 2 0 65535 lq false)) (((nbV 1 (ldO 2 0 65535 lq false) (ldS 2 0 65535 lq false) : Nat) : Int) != (0 : Int)) (hs33 _ _ (bys_in Hv46.heap (k := 2) rfl [0] (by kernel_rfl) rfl (by first | omega | (simp; done) | (simp; omega)))) hM54) ?_
 rintro _ wo55 ⟨ao49, cp50, ta51, tc52, rfl, he56, hs53⟩
 refine ⟨_, _, [.box bp14 [.slice ta51 (List.length (ldR 2 1 65535 (dkR 1 (ldO 2 0 65535 lq false) (ldS 2 0 65535 lq false)) (tkS 1 (ldO 2 0 65535 lq false) (ldS 2 0 65535 lq false)))) tc52, .bool (ldS 2 1 65535 (dkR 1 (ldO 2 0 65535 lq false) (ldS 2 0 65535 lq false)) (tkS 1 (ldO 2 0 65535 lq false) (ldS 2 0 65535 lq false))), .bool (((nbV 1 (ldO 2 0 65535 lq false) (ldS 2 0 65535 lq false) : Nat) : Int) != (0 : Int))] 154, .vec ao49 cp50 1 (bys (ldO 2 1 65535 (dkR 1 (ldO 2 0 65535 lq false) (ldS 2 0 65535 lq false)) (tkS 1 (ldO 2 0 65535 lq false) (ldS 2 0 65535 lq false)))) 5, .box bk5 [.slice ta17 (List.length (ldR 2 0 65535 lq false)) tc18, .bool (ldS 2 0 65535 lq false), .bool false] 154, .vec ao15 cp16 1 (bys (ldO 2 0 65535 lq false)) 5], rfl, he56, by kernel_rfl, fun ac58 En59 Hv60 => ?_⟩
 refine f_o ?_
 refine op_str (d := some 21) (src := 23) (dst := 9) (e := 5) (ao := ao49) (cap := cp50) (p := List.length (ldO 2 1 65535 (dkR 1 (ldO 2 0 65535 lq false) (ldS 2 0 65535 lq false)) (tkS 1 (ldO 2 0 65535 lq false) (ldS 2 0 65535 lq false)))) (bs := ldO 2 1 65535 (dkR 1 (ldO 2 0 65535 lq false) (ldS 2 0 65535 lq false)) (tkS 1 (ldO 2 0 65535 lq false) (ldS 2 0 65535 lq false))) En59 (by kernel_rfl) rfl (by kernel_rfl) (by kernel_rfl) (by kernel_rfl) (Hv60.heap.reads (k := 1) rfl) (bys_vnz Hv60.heap (k := 1) rfl) ?_
 intro ac61 En62
 refine d_e [2,3,4,5,6] [] En62 fun ac63 En64 => ?_
 refine then_normal ?_
 refine wp_seq ?_
 refine wp_seq ?_
 refine region_from ?_
 refine d_k [2,3,4,5,6,22] [] 1 En64 fun ac65 En66 => ?_
 refine f_o ?_
 refine c_l [0] (M := [.box bp14 [.slice ta51 (List.length (ldR 2 1 65535 (dkR 1 (ldO 2 0 65535 lq false) (ldS 2 0 65535 lq false)) (tkS 1 (ldO 2 0 65535 lq false) (ldS 2 0 65535 lq false)))) tc52, .bool (ldS 2 1 65535 (dkR 1 (ldO 2 0 65535 lq false) (ldS 2 0 65535 lq false)) (tkS 1 (ldO 2 0 65535 lq false) (ldS 2 0 65535 lq false))), .bool (((nbV 1 (ldO 2 0 65535 lq false) (ldS 2 0 65535 lq false) : Nat) : Int) != (0 : Int))] 154]) En66 Hv60 (fun hM67 => dmore_go _ bp14 ta51 (List.length (ldR 2 1 65535 (dkR 1 (ldO 2 0 65535 lq false) (ldS 2 0 65535 lq false)) (tkS 1 (ldO 2 0 65535 lq false) (ldS 2 0 65535 lq false)))) tc52 (ldS 2 1 65535 (dkR 1 (ldO 2 0 65535 lq false) (ldS 2 0 65535 lq false)) (tkS 1 (ldO 2 0 65535 lq false) (ldS 2 0 65535 lq false))) (((nbV 1 (ldO 2 0 65535 lq false) (ldS 2 0 65535 lq false) : Nat) : Int) != (0 : Int)) hM67) ?_
 rintro _ wo68 ⟨rfl, he69⟩
 refine ⟨_, _, [.box bp14 [.slice ta51 (List.length (ldR 2 1 65535 (dkR 1 (ldO 2 0 65535 lq false) (ldS 2 0 65535 lq false)) (tkS 1 (ldO 2 0 65535 lq false) (ldS 2 0 65535 lq false)))) tc52, .bool (ldS 2 1 65535 (dkR 1 (ldO 2 0 65535 lq false) (ldS 2 0 65535 lq false)) (tkS 1 (ldO 2 0 65535 lq false) (ldS 2 0 65535 lq false))), .bool (((nbV 1 (ldO 2 0 65535 lq false) (ldS 2 0 65535 lq false) : Nat) : Int) != (0 : Int))] 154, .vec ao49 cp50 1 (bys (ldO 2 1 65535 (dkR 1 (ldO 2 0 65535 lq false) (ldS 2 0 65535 lq false)) (tkS 1 (ldO 2 0 65535 lq false) (ldS 2 0 65535 lq false)))) 5, .box bk5 [.slice ta17 (List.length (ldR 2 0 65535 lq false)) tc18, .bool (ldS 2 0 65535 lq false), .bool false] 154, .vec ao15 cp16 1 (bys (ldO 2 0 65535 lq false)) 5], rfl, he69, by kernel_rfl, fun ac71 En72 Hv73 => ?_⟩
 refine f_e ?_
 refine then_normal ?_
 refine cond_at En72 (t := !(ldS 2 1 65535 (dkR 1 (ldO 2 0 65535 lq false) (ldS 2 0 65535 lq false)) (tkS 1 (ldO 2 0 65535 lq false) (ldS 2 0 65535 lq false))) && decide (0 < List.length (ldR 2 1 65535 (dkR 1 (ldO 2 0 65535 lq false) (ldS 2 0 65535 lq false)) (tkS 1 (ldO 2 0 65535 lq false) (ldS 2 0 65535 lq false))))) (by kernel_rfl) (fun hc74 => ?_) (fun hc74 => ?_)
 ·
  replace hc74 : (ldS 2 1 65535 (dkR 1 (ldO 2 0 65535 lq false) (ldS 2 0 65535 lq false)) (tkS 1 (ldO 2 0 65535 lq false) (ldS 2 0 65535 lq false))) = false ∧ 0 < List.length (ldR 2 1 65535 (dkR 1 (ldO 2 0 65535 lq false) (ldS 2 0 65535 lq false)) (tkS 1 (ldO 2 0 65535 lq false) (ldS 2 0 65535 lq false))) := by simpa using hc74
  refine region_from ?_
  refine d_k [2,3,4,5,6,26] [] 3 En72 fun ac75 En76 => ?_
  refine f_o ?_
  refine m_s 0 [.box bp14 [.slice ta51 (List.length (ldR 2 1 65535 (dkR 1 (ldO 2 0 65535 lq false) (ldS 2 0 65535 lq false)) (tkS 1 (ldO 2 0 65535 lq false) (ldS 2 0 65535 lq false)))) tc52, .bool true, .bool (((nbV 1 (ldO 2 0 65535 lq false) (ldS 2 0 65535 lq false) : Nat) : Int) != (0 : Int))] 154, .vec ao49 cp50 1 (bys (ldO 2 1 65535 (dkR 1 (ldO 2 0 65535 lq false) (ldS 2 0 65535 lq false)) (tkS 1 (ldO 2 0 65535 lq false) (ldS 2 0 65535 lq false)))) 5, .box bk5 [.slice ta17 (List.length (ldR 2 0 65535 lq false)) tc18, .bool (ldS 2 0 65535 lq false), .bool false] 154, .vec ao15 cp16 1 (bys (ldO 2 0 65535 lq false)) 5] En76 Hv73 fun ac77 wo78 En79 Hv80 => ?_
  refine f_e ?_
  refine then_normal ?_
  refine wp_seq ?_
  refine region_from ?_
  refine d_k [2,3,4,5,6,27,28] [] 2 En79 fun ac81 En82 => ?_
  refine f_o ?_
  refine c_l [2,0] (M := [.box bk5 [.slice ta17 (List.length (ldR 2 0 65535 lq false)) tc18, .bool (ldS 2 0 65535 lq false), .bool false] 154, .box bp14 [.slice ta51 (List.length (ldR 2 1 65535 (dkR 1 (ldO 2 0 65535 lq false) (ldS 2 0 65535 lq false)) (tkS 1 (ldO 2 0 65535 lq false) (ldS 2 0 65535 lq false)))) tc52, .bool true, .bool (((nbV 1 (ldO 2 0 65535 lq false) (ldS 2 0 65535 lq false) : Nat) : Int) != (0 : Int))] 154]) En82 Hv80 (fun hM83 => dwith_go _ bk5 bp14 ta17 (List.length (ldR 2 0 65535 lq false)) tc18 (ldS 2 0 65535 lq false) false ta51 (List.length (ldR 2 1 65535 (dkR 1 (ldO 2 0 65535 lq false) (ldS 2 0 65535 lq false)) (tkS 1 (ldO 2 0 65535 lq false) (ldS 2 0 65535 lq false)))) tc52 true (((nbV 1 (ldO 2 0 65535 lq false) (ldS 2 0 65535 lq false) : Nat) : Int) != (0 : Int)) hM83) ?_
  rintro _ wo84 ⟨rfl, he85⟩
  refine ⟨_, _, [.box bk5 [.slice ta17 (List.length (ldR 2 0 65535 lq false)) tc18, .bool ((ldS 2 0 65535 lq false) || true), .bool (false || (((nbV 1 (ldO 2 0 65535 lq false) (ldS 2 0 65535 lq false) : Nat) : Int) != (0 : Int)))] 154, .box bp14 [.slice ta51 (List.length (ldR 2 1 65535 (dkR 1 (ldO 2 0 65535 lq false) (ldS 2 0 65535 lq false)) (tkS 1 (ldO 2 0 65535 lq false) (ldS 2 0 65535 lq false)))) tc52, .bool true, .bool (((nbV 1 (ldO 2 0 65535 lq false) (ldS 2 0 65535 lq false) : Nat) : Int) != (0 : Int))] 154, .vec ao49 cp50 1 (bys (ldO 2 1 65535 (dkR 1 (ldO 2 0 65535 lq false) (ldS 2 0 65535 lq false)) (tkS 1 (ldO 2 0 65535 lq false) (ldS 2 0 65535 lq false)))) 5, .vec ao15 cp16 1 (bys (ldO 2 0 65535 lq false)) 5], rfl, he85, by kernel_rfl, fun ac87 En88 Hv89 => ?_⟩
  refine f_e ?_
  refine then_normal ?_
  refine wp_seq ?_
  refine region_from ?_
  refine d_k [2,3,4,5,6,30] [] 1 En88 fun ac90 En91 => ?_
  refine f_o ?_
  refine c_l [0] (M := [.box bk5 [.slice ta17 (List.length (ldR 2 0 65535 lq false)) tc18, .bool ((ldS 2 0 65535 lq false) || true), .bool (false || (((nbV 1 (ldO 2 0 65535 lq false) (ldS 2 0 65535 lq false) : Nat) : Int) != (0 : Int)))] 154]) En91 Hv89 (fun hM92 => dend_go _ bk5 ta17 (List.length (ldR 2 0 65535 lq false)) tc18 ((ldS 2 0 65535 lq false) || true) (false || (((nbV 1 (ldO 2 0 65535 lq false) (ldS 2 0 65535 lq false) : Nat) : Int) != (0 : Int))) hM92) ?_
  rintro _ wo93 ⟨rfl, he94⟩
  refine ⟨_, _, [.box bk5 [.slice ta17 (List.length (ldR 2 0 65535 lq false)) tc18, .bool ((ldS 2 0 65535 lq false) || true), .bool (false || (((nbV 1 (ldO 2 0 65535 lq false) (ldS 2 0 65535 lq false) : Nat) : Int) != (0 : Int)))] 154, .box bp14 [.slice ta51 (List.length (ldR 2 1 65535 (dkR 1 (ldO 2 0 65535 lq false) (ldS 2 0 65535 lq false)) (tkS 1 (ldO 2 0 65535 lq false) (ldS 2 0 65535 lq false)))) tc52, .bool true, .bool (((nbV 1 (ldO 2 0 65535 lq false) (ldS 2 0 65535 lq false) : Nat) : Int) != (0 : Int))] 154, .vec ao49 cp50 1 (bys (ldO 2 1 65535 (dkR 1 (ldO 2 0 65535 lq false) (ldS 2 0 65535 lq false)) (tkS 1 (ldO 2 0 65535 lq false) (ldS 2 0 65535 lq false)))) 5, .vec ao15 cp16 1 (bys (ldO 2 0 65535 lq false)) 5], rfl, he94, by kernel_rfl, fun ac96 En97 Hv98 => ?_⟩
  refine d_e [2,3,4,5,6,7] [] En97 fun ac99 En100 => ?_
  refine then_normal ?_
  refine wp_seq ?_
  refine d_s [2,3,4,5,6,7,33] [] En100 fun ac101 En102 => ?_
  refine c_n (endV ((ldS 2 0 65535 lq false) || true) (List.length (ldR 2 0 65535 lq false)) (false || (((nbV 1 (ldO 2 0 65535 lq false) (ldS 2 0 65535 lq false) : Nat) : Int) != (0 : Int)))) (0 : Int) En102 (fun hc103 => ?_) (fun hc103 => ?_)
  ·
   refine d_s [2,3,4,5,6,7] [] En102 fun ac104 En105 => ?_
   refine wp_ret ?_
   refine then_ret ?_
   refine d_ret2 (t := 2) (u := 3) (v := .string (bstr [])) (x := .int .i64 (endV ((ldS 2 0 65535 lq false) || true) (List.length (ldR 2 0 65535 lq false)) (false || (((nbV 1 (ldO 2 0 65535 lq false) (ldS 2 0 65535 lq false) : Nat) : Int) != (0 : Int))))) En105 (by kernel_rfl) (by kernel_rfl) (by kernel_rfl) ?_
   have eA : gotA (dnmM lq false false) = endV ((ldS 2 0 65535 lq false) || true) (List.length (ldR 2 0 65535 lq false)) (false || (((nbV 1 (ldO 2 0 65535 lq false) (ldS 2 0 65535 lq false) : Nat) : Int) != (0 : Int))) := (by unfold gotA dnmM dnmO dnmT; dsimp only; first | (rw [more_t hc74] <;> rfl) | (rw [more_f hc74] <;> rfl))
   rw [gotV_n eA (by assumption), eA]
   exact ⟨[], rfl, Hv98.pk [], rfl⟩
  ·
   refine wp_skip ?_
   refine then_normal ?_
   refine d_s [2,3,4,5,7] [] En102 fun ac106 En107 => ?_
   refine wp_ret ?_
   refine d_ret2 (t := 2) (u := 3) (v := .string (bstr (ldO 2 1 65535 (dkR 1 (ldO 2 0 65535 lq false) (ldS 2 0 65535 lq false)) (tkS 1 (ldO 2 0 65535 lq false) (ldS 2 0 65535 lq false))))) (x := .int .i64 (endV ((ldS 2 0 65535 lq false) || true) (List.length (ldR 2 0 65535 lq false)) (false || (((nbV 1 (ldO 2 0 65535 lq false) (ldS 2 0 65535 lq false) : Nat) : Int) != (0 : Int))))) En107 (by kernel_rfl) (by kernel_rfl) (by kernel_rfl) ?_
   have eA : gotA (dnmM lq false false) = endV ((ldS 2 0 65535 lq false) || true) (List.length (ldR 2 0 65535 lq false)) (false || (((nbV 1 (ldO 2 0 65535 lq false) (ldS 2 0 65535 lq false) : Nat) : Int) != (0 : Int))) := (by unfold gotA dnmM dnmO dnmT; dsimp only; first | (rw [more_t hc74] <;> rfl) | (rw [more_f hc74] <;> rfl))
   rw [gotV_0 (eA.trans (by first | assumption | exact Classical.not_not.1 (by assumption))), eA]
   exact ⟨(ldO 2 1 65535 (dkR 1 (ldO 2 0 65535 lq false) (ldS 2 0 65535 lq false)) (tkS 1 (ldO 2 0 65535 lq false) (ldS 2 0 65535 lq false))), rfl, Hv98.pk [], rfl⟩
 ·
  replace hc74 : ¬ ((ldS 2 1 65535 (dkR 1 (ldO 2 0 65535 lq false) (ldS 2 0 65535 lq false)) (tkS 1 (ldO 2 0 65535 lq false) (ldS 2 0 65535 lq false))) = false ∧ 0 < List.length (ldR 2 1 65535 (dkR 1 (ldO 2 0 65535 lq false) (ldS 2 0 65535 lq false)) (tkS 1 (ldO 2 0 65535 lq false) (ldS 2 0 65535 lq false)))) := by simpa using hc74
  refine wp_skip ?_
  refine then_normal ?_
  refine wp_seq ?_
  refine region_from ?_
  refine d_k [2,3,4,5,6,27,28] [] 2 En72 fun ac108 En109 => ?_
  refine f_o ?_
  refine c_l [2,0] (M := [.box bk5 [.slice ta17 (List.length (ldR 2 0 65535 lq false)) tc18, .bool (ldS 2 0 65535 lq false), .bool false] 154, .box bp14 [.slice ta51 (List.length (ldR 2 1 65535 (dkR 1 (ldO 2 0 65535 lq false) (ldS 2 0 65535 lq false)) (tkS 1 (ldO 2 0 65535 lq false) (ldS 2 0 65535 lq false)))) tc52, .bool (ldS 2 1 65535 (dkR 1 (ldO 2 0 65535 lq false) (ldS 2 0 65535 lq false)) (tkS 1 (ldO 2 0 65535 lq false) (ldS 2 0 65535 lq false))), .bool (((nbV 1 (ldO 2 0 65535 lq false) (ldS 2 0 65535 lq false) : Nat) : Int) != (0 : Int))] 154]) En109 Hv73 (fun hM110 => dwith_go _ bk5 bp14 ta17 (List.length (ldR 2 0 65535 lq false)) tc18 (ldS 2 0 65535 lq false) false ta51 (List.length (ldR 2 1 65535 (dkR 1 (ldO 2 0 65535 lq false) (ldS 2 0 65535 lq false)) (tkS 1 (ldO 2 0 65535 lq false) (ldS 2 0 65535 lq false)))) tc52 (ldS 2 1 65535 (dkR 1 (ldO 2 0 65535 lq false) (ldS 2 0 65535 lq false)) (tkS 1 (ldO 2 0 65535 lq false) (ldS 2 0 65535 lq false))) (((nbV 1 (ldO 2 0 65535 lq false) (ldS 2 0 65535 lq false) : Nat) : Int) != (0 : Int)) hM110) ?_
  rintro _ wo111 ⟨rfl, he112⟩
  refine ⟨_, _, [.box bk5 [.slice ta17 (List.length (ldR 2 0 65535 lq false)) tc18, .bool ((ldS 2 0 65535 lq false) || (ldS 2 1 65535 (dkR 1 (ldO 2 0 65535 lq false) (ldS 2 0 65535 lq false)) (tkS 1 (ldO 2 0 65535 lq false) (ldS 2 0 65535 lq false)))), .bool (false || (((nbV 1 (ldO 2 0 65535 lq false) (ldS 2 0 65535 lq false) : Nat) : Int) != (0 : Int)))] 154, .box bp14 [.slice ta51 (List.length (ldR 2 1 65535 (dkR 1 (ldO 2 0 65535 lq false) (ldS 2 0 65535 lq false)) (tkS 1 (ldO 2 0 65535 lq false) (ldS 2 0 65535 lq false)))) tc52, .bool (ldS 2 1 65535 (dkR 1 (ldO 2 0 65535 lq false) (ldS 2 0 65535 lq false)) (tkS 1 (ldO 2 0 65535 lq false) (ldS 2 0 65535 lq false))), .bool (((nbV 1 (ldO 2 0 65535 lq false) (ldS 2 0 65535 lq false) : Nat) : Int) != (0 : Int))] 154, .vec ao49 cp50 1 (bys (ldO 2 1 65535 (dkR 1 (ldO 2 0 65535 lq false) (ldS 2 0 65535 lq false)) (tkS 1 (ldO 2 0 65535 lq false) (ldS 2 0 65535 lq false)))) 5, .vec ao15 cp16 1 (bys (ldO 2 0 65535 lq false)) 5], rfl, he112, by kernel_rfl, fun ac114 En115 Hv116 => ?_⟩
  refine f_e ?_
  refine then_normal ?_
  refine wp_seq ?_
  refine region_from ?_
  refine d_k [2,3,4,5,6,30] [] 1 En115 fun ac117 En118 => ?_
  refine f_o ?_
  refine c_l [0] (M := [.box bk5 [.slice ta17 (List.length (ldR 2 0 65535 lq false)) tc18, .bool ((ldS 2 0 65535 lq false) || (ldS 2 1 65535 (dkR 1 (ldO 2 0 65535 lq false) (ldS 2 0 65535 lq false)) (tkS 1 (ldO 2 0 65535 lq false) (ldS 2 0 65535 lq false)))), .bool (false || (((nbV 1 (ldO 2 0 65535 lq false) (ldS 2 0 65535 lq false) : Nat) : Int) != (0 : Int)))] 154]) En118 Hv116 (fun hM119 => dend_go _ bk5 ta17 (List.length (ldR 2 0 65535 lq false)) tc18 ((ldS 2 0 65535 lq false) || (ldS 2 1 65535 (dkR 1 (ldO 2 0 65535 lq false) (ldS 2 0 65535 lq false)) (tkS 1 (ldO 2 0 65535 lq false) (ldS 2 0 65535 lq false)))) (false || (((nbV 1 (ldO 2 0 65535 lq false) (ldS 2 0 65535 lq false) : Nat) : Int) != (0 : Int))) hM119) ?_
  rintro _ wo120 ⟨rfl, he121⟩
  refine ⟨_, _, [.box bk5 [.slice ta17 (List.length (ldR 2 0 65535 lq false)) tc18, .bool ((ldS 2 0 65535 lq false) || (ldS 2 1 65535 (dkR 1 (ldO 2 0 65535 lq false) (ldS 2 0 65535 lq false)) (tkS 1 (ldO 2 0 65535 lq false) (ldS 2 0 65535 lq false)))), .bool (false || (((nbV 1 (ldO 2 0 65535 lq false) (ldS 2 0 65535 lq false) : Nat) : Int) != (0 : Int)))] 154, .box bp14 [.slice ta51 (List.length (ldR 2 1 65535 (dkR 1 (ldO 2 0 65535 lq false) (ldS 2 0 65535 lq false)) (tkS 1 (ldO 2 0 65535 lq false) (ldS 2 0 65535 lq false)))) tc52, .bool (ldS 2 1 65535 (dkR 1 (ldO 2 0 65535 lq false) (ldS 2 0 65535 lq false)) (tkS 1 (ldO 2 0 65535 lq false) (ldS 2 0 65535 lq false))), .bool (((nbV 1 (ldO 2 0 65535 lq false) (ldS 2 0 65535 lq false) : Nat) : Int) != (0 : Int))] 154, .vec ao49 cp50 1 (bys (ldO 2 1 65535 (dkR 1 (ldO 2 0 65535 lq false) (ldS 2 0 65535 lq false)) (tkS 1 (ldO 2 0 65535 lq false) (ldS 2 0 65535 lq false)))) 5, .vec ao15 cp16 1 (bys (ldO 2 0 65535 lq false)) 5], rfl, he121, by kernel_rfl, fun ac123 En124 Hv125 => ?_⟩
  refine d_e [2,3,4,5,6,7] [] En124 fun ac126 En127 => ?_
  refine then_normal ?_
  refine wp_seq ?_
  refine d_s [2,3,4,5,6,7,33] [] En127 fun ac128 En129 => ?_
  refine c_n (endV ((ldS 2 0 65535 lq false) || (ldS 2 1 65535 (dkR 1 (ldO 2 0 65535 lq false) (ldS 2 0 65535 lq false)) (tkS 1 (ldO 2 0 65535 lq false) (ldS 2 0 65535 lq false)))) (List.length (ldR 2 0 65535 lq false)) (false || (((nbV 1 (ldO 2 0 65535 lq false) (ldS 2 0 65535 lq false) : Nat) : Int) != (0 : Int)))) (0 : Int) En129 (fun hc130 => ?_) (fun hc130 => ?_)
  ·
   refine d_s [2,3,4,5,6,7] [] En129 fun ac131 En132 => ?_
   refine wp_ret ?_
   refine then_ret ?_
   refine d_ret2 (t := 2) (u := 3) (v := .string (bstr [])) (x := .int .i64 (endV ((ldS 2 0 65535 lq false) || (ldS 2 1 65535 (dkR 1 (ldO 2 0 65535 lq false) (ldS 2 0 65535 lq false)) (tkS 1 (ldO 2 0 65535 lq false) (ldS 2 0 65535 lq false)))) (List.length (ldR 2 0 65535 lq false)) (false || (((nbV 1 (ldO 2 0 65535 lq false) (ldS 2 0 65535 lq false) : Nat) : Int) != (0 : Int))))) En132 (by kernel_rfl) (by kernel_rfl) (by kernel_rfl) ?_
   have eA : gotA (dnmM lq false false) = endV ((ldS 2 0 65535 lq false) || (ldS 2 1 65535 (dkR 1 (ldO 2 0 65535 lq false) (ldS 2 0 65535 lq false)) (tkS 1 (ldO 2 0 65535 lq false) (ldS 2 0 65535 lq false)))) (List.length (ldR 2 0 65535 lq false)) (false || (((nbV 1 (ldO 2 0 65535 lq false) (ldS 2 0 65535 lq false) : Nat) : Int) != (0 : Int))) := (by unfold gotA dnmM dnmO dnmT; dsimp only; first | (rw [more_t hc74] <;> rfl) | (rw [more_f hc74] <;> rfl))
   rw [gotV_n eA (by assumption), eA]
   exact ⟨[], rfl, Hv125.pk [], rfl⟩
  ·
   refine wp_skip ?_
   refine then_normal ?_
   refine d_s [2,3,4,5,7] [] En129 fun ac133 En134 => ?_
   refine wp_ret ?_
   refine d_ret2 (t := 2) (u := 3) (v := .string (bstr (ldO 2 1 65535 (dkR 1 (ldO 2 0 65535 lq false) (ldS 2 0 65535 lq false)) (tkS 1 (ldO 2 0 65535 lq false) (ldS 2 0 65535 lq false))))) (x := .int .i64 (endV ((ldS 2 0 65535 lq false) || (ldS 2 1 65535 (dkR 1 (ldO 2 0 65535 lq false) (ldS 2 0 65535 lq false)) (tkS 1 (ldO 2 0 65535 lq false) (ldS 2 0 65535 lq false)))) (List.length (ldR 2 0 65535 lq false)) (false || (((nbV 1 (ldO 2 0 65535 lq false) (ldS 2 0 65535 lq false) : Nat) : Int) != (0 : Int))))) En134 (by kernel_rfl) (by kernel_rfl) (by kernel_rfl) ?_
   have eA : gotA (dnmM lq false false) = endV ((ldS 2 0 65535 lq false) || (ldS 2 1 65535 (dkR 1 (ldO 2 0 65535 lq false) (ldS 2 0 65535 lq false)) (tkS 1 (ldO 2 0 65535 lq false) (ldS 2 0 65535 lq false)))) (List.length (ldR 2 0 65535 lq false)) (false || (((nbV 1 (ldO 2 0 65535 lq false) (ldS 2 0 65535 lq false) : Nat) : Int) != (0 : Int))) := (by unfold gotA dnmM dnmO dnmT; dsimp only; first | (rw [more_t hc74] <;> rfl) | (rw [more_f hc74] <;> rfl))
   rw [gotV_0 (eA.trans (by first | assumption | exact Classical.not_not.1 (by assumption))), eA]
   exact ⟨(ldO 2 1 65535 (dkR 1 (ldO 2 0 65535 lq false) (ldS 2 0 65535 lq false)) (tkS 1 (ldO 2 0 65535 lq false) (ldS 2 0 65535 lq false))), rfl, Hv125.pk [], rfl⟩

end Go.Proofs.Ytofecellbfhnjaa
