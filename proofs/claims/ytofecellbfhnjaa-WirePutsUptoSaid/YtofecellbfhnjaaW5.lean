/- Layer 17: lists of numbers, as the document reads them; compared. -/
import Derived.Test.YtofecellbfhnjaaW4
namespace Go.Proofs.Ytofecellbfhnjaa
open Go.Dbr
set_option maxRecDepth 100000
set_option maxHeartbeats 2000000
set_option linter.unusedVariables false
set_option linter.unusedSimpArgs false

def dmanyM {α : Type} (one : Bs → Bool → Bool → α × PS) (n x y : Nat) (l : Bs) (s o : Bool) : List α × PS :=
  ((mn one (ldO n x y l s, ldS n x y l s, false)).1, ldR n x y l s, ldS n x y l s || (mn one (ldO n x y l s, ldS n x y l s, false)).2.2.1, o || (mn one (ldO n x y l s, ldS n x y l s, false)).2.2.2)
theorem more_no {s : Bool} {l : Bs} (h : ¬ (s = false ∧ 0 < l.length)) : s = true ∨ l = [] := by
  cases s with
  | true => exact .inl rfl
  | false => exact .inr (List.length_eq_zero_iff.1 (Nat.eq_zero_of_not_pos fun g => h ⟨rfl, g⟩))
theorem same_step {α β : Type} {f : α → β} {xs ys : List α} {i : Nat} {x y : α} (hx : xs[i]? = some x) (hy : ys[i]? = some y) (e : f x = f y) (h : List.take i (List.map f xs) = List.take i (List.map f ys)) : List.take (i + 1) (List.map f xs) = List.take (i + 1) (List.map f ys) := by
  rw [List.take_add_one, List.take_add_one, List.getElem?_map, List.getElem?_map, hx, hy, h]
  show _ ++ [f x] = _ ++ [f y]
  rw [e]
theorem same_no {α β : Type} [BEq β] [LawfulBEq β] {f : α → β} {xs ys : List α} {i : Nat} {x y : α} (hx : xs[i]? = some x) (hy : ys[i]? = some y) (e : ¬ f x = f y) : false = (List.map f xs == List.map f ys) := by
  refine (beq_false_of_ne fun g => e ?_).symm
  have := congrArg (fun l => l[i]?) g
  simp only [List.getElem?_map, hx, hy, Option.map_some, Option.some.injEq] at this
  exact this
theorem same_len {α β : Type} [BEq β] [LawfulBEq β] {f : α → β} {xs ys : List α} (e : ¬ xs.length = ys.length) : false = (List.map f xs == List.map f ys) := by
  refine (beq_false_of_ne fun g => e ?_).symm
  have := congrArg List.length g
  rwa [List.length_map, List.length_map] at this
theorem same_all {α β : Type} [BEq β] [LawfulBEq β] {f : α → β} {xs ys : List α} {i : Nat} (e : xs.length = ys.length) (hi : ¬ i < xs.length) (h : List.take i (List.map f xs) = List.take i (List.map f ys)) : true = (List.map f xs == List.map f ys) := by
  rw [List.take_of_length_le (by rw [List.length_map]; omega), List.take_of_length_le (by rw [List.length_map]; omega)] at h
  rw [h]
  exact (beq_self_eq_true _).symm
theorem u16_eq {x y : UInt16} (h : ((UInt16.toNat x : Nat) : Int) = ((UInt16.toNat y : Nat) : Int)) : x = y := UInt16.toNat_inj.1 (by omega)

theorem numbers_go (w : World) (aq : Option Addr) (nq cq : Nat) (lq : List UInt8) (eq : nq = List.length lq) (iq : InB w [] aq cq lq) (n : Nat) (hn : n ≤ 4) : Calls Try.prog 149 #[.slice aq nq cq, ni n] w fun e w' => ∃ oa oc xs, e = .returned (.tuple #[.slice oa (List.length xs) oc, .int .i64 (gotA (dmanyM du16M n 2 65535 lq false false))]) ∧ Ev w [] w' [.vec oa oc 1 (List.flatMap fU16 xs) 37] ∧ List.map (fun y : RU16 => y) xs = gotV [] (dmanyM du16M n 2 65535 lq false false) ∧ List.length xs ≤ 4294967296 := by
 subst eq
 refine d_0 [(0, .slice aq (List.length lq) cq), (1, ni n)] 34 Go.Proofs.Try.func149 Go.Proofs.Try.ntmps149 (Heap.nil _) fun act0 En0 Hv0 => ?_
 refine wp_seq ?_
 refine d_r [0,1,4,5] [] En0 fun ac1 En2 => ?_
 refine then_normal ?_
 refine wp_seq ?_
 refine region_from ?_
 refine d_k [1,4,5,11] [] 2 En2 fun ac3 En4 => ?_
 refine f_o ?_
 refine m_m 154 [.slice aq (List.length lq) cq, .bool false, .bool false] En4 Hv0 fun ac6 wo7 bk5 En8 Hv9 => ?_
 refine d_e [1,4,5,6] [] En8 fun ac10 En11 => ?_
 refine then_normal ?_
 refine wp_seq ?_
 refine region_from ?_
 refine d_k [4,5,6,13,14] [] 2 En11 fun ac12 En13 => ?_
 refine f_o ?_
 refine c_l [0] (M := [.box bk5 [.slice aq (List.length lq) cq, .bool false, .bool false] 154]) En13 Hv9 (fun hM20 => dpart_go _ bk5 n (by omega) 2 65535 (by omega) (by omega) aq cq lq false false ((iq.ev Hv9).pick [0] (by kernel_rfl)) hM20) ?_
 rintro _ wo21 ⟨bp14, ao15, cp16, ta17, tc18, rfl, he22, hs19⟩
 refine ⟨_, _, [.box bk5 [.slice ta17 (List.length (ldR n 2 65535 lq false)) tc18, .bool (ldS n 2 65535 lq false), .bool false] 154, .box bp14 [.slice ao15 (List.length (ldO n 2 65535 lq false)) cp16, .bool (ldS n 2 65535 lq false), .bool false] 154, .vec ao15 cp16 1 (bys (ldO n 2 65535 lq false)) 5], rfl, he22, by kernel_rfl, fun ac24 En25 Hv26 => ?_⟩
 refine d_e [4,5,6,7] [] En25 fun ac27 En28 => ?_
 refine then_normal ?_
 refine wp_seq ?_
 refine d_r [4,5,6,7,8] [] En28 fun ac29 En30 => ?_
 refine then_normal ?_
 refine wp_seq ?_
 refine wp_block ?_
 have Hv31 : Ev w [] wo21 [.box bk5 [.slice ta17 (List.length (ldR n 2 65535 lq false)) tc18, .bool (ldS n 2 65535 lq false), .bool false] 154, .box bp14 [.slice ao15 (List.length (ldO n 2 65535 lq false)) cp16, .bool (ldS n 2 65535 lq false), .bool false] 154, .vec ao15 cp16 1 (bys (ldO n 2 65535 lq false)) 5, .vec none 0 1 (List.flatMap fU16 []) 37] := Ev.nil (sz := 1) (T := 37) Hv26
 have hO32 := Nat.le_of_succ_le (ldO_32 (x := 2) (y := 65535) hn lq false)
 refine loop_m (fun ms32 ac wo => ∃ (oa : Option Addr) (oc : Nat) (xs : List (RU16)) (ra : Option Addr) (rc : Nat) (rl : Bs) (s1 : Bool) (o1 : Bool), ms32 = (bif s1 then 0 else List.length rl + 1 : Nat) ∧ Env ac 34 [(4, .slice none 0 0), (5, .int .i64 0), (6, pt bk5), (7, pt bp14), (8, .slice oa (List.length xs) oc)] ∧ Ev w [] wo [.box bp14 [.slice ra (List.length rl) rc, .bool s1, .bool o1] 154, .vec ao15 cp16 1 (bys (ldO n 2 65535 lq false)) 5, .box bk5 [.slice ta17 (List.length (ldR n 2 65535 lq false)) tc18, .bool (ldS n 2 65535 lq false), .bool false] 154, .vec oa oc 1 (List.flatMap fU16 xs) 37] ∧ (Sub ao15 cp16 (ldO n 2 65535 lq false) ra rc rl) ∧ (mn du16M ((ldO n 2 65535 lq false, ldS n 2 65535 lq false, false) : PS) = (List.map (fun y : RU16 => y) xs ++ (mn du16M (rl, s1, o1)).1, (mn du16M (rl, s1, o1)).2)) ∧ (List.length xs + List.length rl ≤ List.length (ldO n 2 65535 lq false) + (bif s1 then 1 else 0))) ⟨_, none, 0, [], ao15, cp16, (ldO n 2 65535 lq false), (ldS n 2 65535 lq false), false, rfl, En30.sb, Hv31.pk [1, 2, 0, 3], Sub.self, rfl, (by rw [List.length_nil, Nat.zero_add]; exact Nat.le_add_right _ _)⟩ ?_
 rintro mm38 ac34 wo35 ⟨oa, oc, xs, ra, rc, rl, s1, o1, rfl, En36, Hv37, hsu, hmn, hct⟩
 refine wp_seq ?_
 refine wp_seq ?_
 refine region_from ?_
 refine d_k [4,5,6,7,8,16] [] 1 En36 fun ac39 En40 => ?_
 refine f_o ?_
 refine c_l [0] (M := [.box bp14 [.slice ra (List.length rl) rc, .bool s1, .bool o1] 154]) En40 Hv37 (fun hM41 => dmore_go _ bp14 ra (List.length rl) rc s1 o1 hM41) ?_
 rintro _ wo42 ⟨rfl, he43⟩
 refine ⟨_, _, [.box bp14 [.slice ra (List.length rl) rc, .bool s1, .bool o1] 154, .vec ao15 cp16 1 (bys (ldO n 2 65535 lq false)) 5, .box bk5 [.slice ta17 (List.length (ldR n 2 65535 lq false)) tc18, .bool (ldS n 2 65535 lq false), .bool false] 154, .vec oa oc 1 (List.flatMap fU16 xs) 37], rfl, he43, by kernel_rfl, fun ac45 En46 Hv47 => ?_⟩
 refine f_e ?_
 refine then_normal ?_
 refine cond_at En46 (t := !s1 && decide (0 < List.length rl)) (by kernel_rfl) (fun hc48 => ?_) (fun hc48 => ?_)
 ·
  replace hc48 : s1 = false ∧ 0 < List.length rl := by simpa using hc48
  refine wp_skip ?_
  refine then_normal ?_
  refine wp_block ?_
  refine region_from ?_
  refine d_k [4,5,6,7,8,18,19] [] 2 En46 fun ac49 En50 => ?_
  refine f_o ?_
  refine c_l [0] (M := [.box bp14 [.slice ra (List.length rl) rc, .bool s1, .bool o1] 154]) En50 Hv47 (fun hM54 => dnumber_go _ bp14 2 (by omega) ra rc rl s1 o1 (hsu _ _ (bys_in Hv47.heap (k := 1) rfl [0] (by kernel_rfl) rfl (by first | omega | (simp; done) | (simp; omega)))) hM54) ?_
  rintro _ wo55 ⟨ta51, tc52, rfl, he56, hs53⟩
  refine ⟨_, _, [.box bp14 [.slice ta51 (List.length (dkR 2 rl s1)) tc52, .bool (tkS 2 rl s1), .bool o1] 154, .vec ao15 cp16 1 (bys (ldO n 2 65535 lq false)) 5, .box bk5 [.slice ta17 (List.length (ldR n 2 65535 lq false)) tc18, .bool (ldS n 2 65535 lq false), .bool false] 154, .vec oa oc 1 (List.flatMap fU16 xs) 37], rfl, he56, by kernel_rfl, fun ac58 En59 Hv60 => ?_⟩
  refine d_k [4,5,6,7,8,18,21] [(3, g_i .u16 (Go.Dbr.nat_to_u16 (a := ((nbV 2 rl s1 : Nat) : Int)) (n := nbV 2 rl s1) rfl))] 4 En59 fun ac61 En62 => ?_
  refine f_o ?_
  refine op_lit (d := some 22) (t := 32) (T := 37) (m := 1) (parts := #[(0, .int .u16 ((UInt16.toNat (UInt16.ofNat (nbV 2 rl s1)) : Nat) : Int))]) (xs := List.flatMap fU16 ([UInt16.ofNat (nbV 2 rl s1)] : List (RU16))) (sz := 1) En62 (by kernel_rfl) (by kernel_rfl) rfl (by decide) Hv60 ?_
  intro ac64 wo65 bk63 En66 Hv67
  refine f_o ?_
  refine op_append (d := some 23) (t := 32) (tx := 32) (ty := 32) (k := 3) (p := List.length xs) (m := 1) (x := .slice (some ⟨bk63, 0, none⟩) 1 1) (bytes := 2) En66 (by kernel_rfl) Hv67 rfl (sv_len (f := fU16) (sz := 1) (fun _ => rfl) _) (Reads.src (size := 1) (tx := 32) (e' := 37) (by kernel_rfl) (Hv67.heap.reads (k := 4) rfl) rfl (fun e => by cases e) (flat_one (f := fU16) (fun _ => one_all rfl) _)) (by kernel_rfl) (z := .int .u16 0) (by kernel_rfl) rfl (by decide) (by have hb1 := mn_b1 s1; omega) (by unfold maxLen; have hb1 := mn_b1 s1; omega) ?_
  intro ac72 wo73 ao68 cp69 En74 Hv75 hnz _
  clear hnz
  rw [← List.flatMap_append] at Hv75
  have ehz70 : (List.length xs) + 1 = List.length (xs ++ ([UInt16.ofNat (nbV 2 rl s1)] : List (RU16))) := (by first | (simp; done) | (simp; omega) | omega)
  rw [ehz70] at En74
  refine d_e [4,5,6,7,8] [] En74 fun ac76 En77 => ?_
  refine block_normal ?_
  refine then_normal ?_
  refine ⟨_, ⟨ao68, cp69, (xs ++ ([UInt16.ofNat (nbV 2 rl s1)] : List (RU16))), ta51, tc52, (dkR 2 rl s1), (tkS 2 rl s1), o1, rfl, En77.sb, Hv75.pk [0, 1, 2, 3], (hsu.trans hs53), (by rw [hmn, mn_step du16_dec hc48.1 hc48.2, List.map_append, List.append_assoc]; rfl), (mn_ct hc48.1 hct (dec_lt (o := o1) du16_dec hc48.1 hc48.2) (dec_le (o := o1) du16_dec hc48.1) hc48.2)⟩, ?_⟩
  exact mn_mu hc48.1 hc48.2 (dec_lt (o := o1) du16_dec hc48.1 hc48.2)
 ·
  replace hc48 : ¬ (s1 = false ∧ 0 < List.length rl) := by simpa using hc48
  refine wp_exit ?_
  refine then_exit ?_
  refine then_exit ?_
  refine block_exit ?_
  refine then_normal ?_
  refine wp_seq ?_
  have hm2 : mn du16M ((ldO n 2 65535 lq false, ldS n 2 65535 lq false, false) : PS) = (List.map (fun y : RU16 => y) xs, rl, s1, o1) := by rw [hmn, mn_end (p := (rl, s1, o1)) (more_no hc48), List.append_nil]
  have hc2 := mn_c1 hct
  refine region_from ?_
  refine d_k [4,5,6,7,8,24,25] [] 2 En46 fun ac78 En79 => ?_
  refine f_o ?_
  refine c_l [2,0] (M := [.box bk5 [.slice ta17 (List.length (ldR n 2 65535 lq false)) tc18, .bool (ldS n 2 65535 lq false), .bool false] 154, .box bp14 [.slice ra (List.length rl) rc, .bool s1, .bool o1] 154]) En79 Hv47 (fun hM80 => dwith_go _ bk5 bp14 ta17 (List.length (ldR n 2 65535 lq false)) tc18 (ldS n 2 65535 lq false) false ra (List.length rl) rc s1 o1 hM80) ?_
  rintro _ wo81 ⟨rfl, he82⟩
  refine ⟨_, _, [.box bk5 [.slice ta17 (List.length (ldR n 2 65535 lq false)) tc18, .bool ((ldS n 2 65535 lq false) || s1), .bool (false || o1)] 154, .box bp14 [.slice ra (List.length rl) rc, .bool s1, .bool o1] 154, .vec ao15 cp16 1 (bys (ldO n 2 65535 lq false)) 5, .vec oa oc 1 (List.flatMap fU16 xs) 37], rfl, he82, by kernel_rfl, fun ac84 En85 Hv86 => ?_⟩
  refine f_e ?_
  refine then_normal ?_
  refine wp_seq ?_
  refine region_from ?_
  refine d_k [4,5,6,7,8,27] [] 1 En85 fun ac87 En88 => ?_
  refine f_o ?_
  refine c_l [0] (M := [.box bk5 [.slice ta17 (List.length (ldR n 2 65535 lq false)) tc18, .bool ((ldS n 2 65535 lq false) || s1), .bool (false || o1)] 154]) En88 Hv86 (fun hM89 => dend_go _ bk5 ta17 (List.length (ldR n 2 65535 lq false)) tc18 ((ldS n 2 65535 lq false) || s1) (false || o1) hM89) ?_
  rintro _ wo90 ⟨rfl, he91⟩
  refine ⟨_, _, [.box bk5 [.slice ta17 (List.length (ldR n 2 65535 lq false)) tc18, .bool ((ldS n 2 65535 lq false) || s1), .bool (false || o1)] 154, .box bp14 [.slice ra (List.length rl) rc, .bool s1, .bool o1] 154, .vec ao15 cp16 1 (bys (ldO n 2 65535 lq false)) 5, .vec oa oc 1 (List.flatMap fU16 xs) 37], rfl, he91, by kernel_rfl, fun ac93 En94 Hv95 => ?_⟩
  refine d_e [4,5,6,7,8,9] [] En94 fun ac96 En97 => ?_
  refine then_normal ?_
  refine wp_seq ?_
  refine wp_seq ?_
  refine d_r [4,5,6,7,8,9,30] [] En97 fun ac98 En99 => ?_
  refine then_normal ?_
  refine c_n (endV ((ldS n 2 65535 lq false) || s1) (List.length (ldR n 2 65535 lq false)) (false || o1)) (0 : Int) En99 (fun hc100 => ?_) (fun hc100 => ?_)
  ·
   refine wp_seq ?_
   refine d_r [4,5,6,7,8,9] [] En99 fun ac101 En102 => ?_
   refine then_normal ?_
   refine wp_ret ?_
   refine then_ret ?_
   refine d_ret2 (t := 4) (u := 5) (v := .slice none 0 0) (x := .int .i64 (endV ((ldS n 2 65535 lq false) || s1) (List.length (ldR n 2 65535 lq false)) (false || o1))) En102 (by kernel_rfl) (by kernel_rfl) (by kernel_rfl) ?_
   have eA : gotA (dmanyM du16M n 2 65535 lq false false) = endV ((ldS n 2 65535 lq false) || s1) (List.length (ldR n 2 65535 lq false)) (false || o1) := by unfold gotA dmanyM; rw [hm2] <;> rfl
   rw [gotV_n eA (by assumption), eA]
   have Hv103 : Ev w [] wo90 [.box bk5 [.slice ta17 (List.length (ldR n 2 65535 lq false)) tc18, .bool ((ldS n 2 65535 lq false) || s1), .bool (false || o1)] 154, .box bp14 [.slice ra (List.length rl) rc, .bool s1, .bool o1] 154, .vec ao15 cp16 1 (bys (ldO n 2 65535 lq false)) 5, .vec oa oc 1 (List.flatMap fU16 xs) 37, .vec none 0 1 (List.flatMap fU16 []) 37] := Ev.nil (sz := 1) (T := 37) Hv95
   exact ⟨none, 0, [], rfl, Hv103.pk [4], rfl, (Nat.zero_le _)⟩
  ·
   refine wp_skip ?_
   refine then_normal ?_
   refine wp_seq ?_
   refine d_r [4,5,6,7,8,9] [] En99 fun ac104 En105 => ?_
   refine then_normal ?_
   refine wp_ret ?_
   refine d_ret2 (t := 4) (u := 5) (v := .slice oa (List.length xs) oc) (x := .int .i64 (endV ((ldS n 2 65535 lq false) || s1) (List.length (ldR n 2 65535 lq false)) (false || o1))) En105 (by kernel_rfl) (by kernel_rfl) (by kernel_rfl) ?_
   have eA : gotA (dmanyM du16M n 2 65535 lq false false) = endV ((ldS n 2 65535 lq false) || s1) (List.length (ldR n 2 65535 lq false)) (false || o1) := by unfold gotA dmanyM; rw [hm2] <;> rfl
   rw [gotV_0 (eA.trans (by assumption)), eA]
   exact ⟨oa, oc, xs, rfl, Hv95.pk [3], (by show _ = (mn du16M ((ldO n 2 65535 lq false, ldS n 2 65535 lq false, false) : PS)).1; rw [hm2]), (Nat.le_trans hc2 (ldO_32 hn _ _))⟩

theorem dgetlist_go (w : World) (aq : Option Addr) (nq cq : Nat) (lq : List UInt8) (eq : nq = List.length lq) (iq : InB w [] aq cq lq) : Calls Try.prog 44 #[.slice aq nq cq] w fun e w' => ∃ oa oc xs, e = .returned (.tuple #[.slice oa (List.length xs) oc, .int .i64 (gotA (dmanyM du16M 2 2 65535 lq false false))]) ∧ Ev w [] w' [.vec oa oc 1 (List.flatMap fU16 xs) 37] ∧ List.map (fun y : RU16 => y) xs = gotV [] (dmanyM du16M 2 2 65535 lq false false) ∧ List.length xs ≤ 4294967296 := by
 subst eq
 refine d_0 [(0, .slice aq (List.length lq) cq)] 8 Go.Proofs.Try.func44 Go.Proofs.Try.ntmps44 (Heap.nil _) fun act0 En0 Hv0 => ?_
 refine d_s [0,2,3] [] En0 fun ac1 En2 => ?_
 refine wp_seq ?_
 refine region_from ?_
 refine d_k [2,3,4] [] 1 En2 fun ac3 En4 => ?_
 refine f_o ?_
 refine c_0 En4 Hv0 (numbers_go _ aq (List.length lq) cq lq (by first | rfl | (simp; done) | (simp; omega) | omega) ((iq.ev Hv0).pick [] (by kernel_rfl)) 2 (by omega)) ?_
 rintro _ wo11 ⟨oa5, oc6, xs7, rfl, he12, hpu8, hf9⟩
 refine ⟨_, _, _, rfl, he12, rfl, fun ac14 En15 Hv16 => ?_⟩
 refine d_e [2,3] [] En15 fun ac17 En18 => ?_
 refine then_normal ?_
 refine wp_ret ?_
 refine d_ret2 (t := 2) (u := 3) (v := .slice oa5 (List.length xs7) oc6) (x := .int .i64 (gotA (dmanyM du16M 2 2 65535 lq false false))) En18 (by kernel_rfl) (by kernel_rfl) (by kernel_rfl) ?_
 exact ⟨oa5, oc6, xs7, rfl, Hv16.pk [0], hpu8, hf9⟩

theorem dgetversions_go (w : World) (aq : Option Addr) (nq cq : Nat) (lq : List UInt8) (eq : nq = List.length lq) (iq : InB w [] aq cq lq) : Calls Try.prog 47 #[.slice aq nq cq] w fun e w' => ∃ oa oc xs, e = .returned (.tuple #[.slice oa (List.length xs) oc, .int .i64 (gotA (dmanyM du16M 1 2 65535 lq false false))]) ∧ Ev w [] w' [.vec oa oc 1 (List.flatMap fU16 xs) 37] ∧ List.map (fun y : RU16 => y) xs = gotV [] (dmanyM du16M 1 2 65535 lq false false) ∧ List.length xs ≤ 4294967296 := by
 subst eq
 refine d_0 [(0, .slice aq (List.length lq) cq)] 8 Go.Proofs.Try.func47 Go.Proofs.Try.ntmps47 (Heap.nil _) fun act0 En0 Hv0 => ?_
 refine d_s [0,2,3] [] En0 fun ac1 En2 => ?_
 refine wp_seq ?_
 refine region_from ?_
 refine d_k [2,3,4] [] 1 En2 fun ac3 En4 => ?_
 refine f_o ?_
 refine c_0 En4 Hv0 (numbers_go _ aq (List.length lq) cq lq (by first | rfl | (simp; done) | (simp; omega) | omega) ((iq.ev Hv0).pick [] (by kernel_rfl)) 1 (by omega)) ?_
 rintro _ wo11 ⟨oa5, oc6, xs7, rfl, he12, hpu8, hf9⟩
 refine ⟨_, _, _, rfl, he12, rfl, fun ac14 En15 Hv16 => ?_⟩
 refine d_e [2,3] [] En15 fun ac17 En18 => ?_
 refine then_normal ?_
 refine wp_ret ?_
 refine d_ret2 (t := 2) (u := 3) (v := .slice oa5 (List.length xs7) oc6) (x := .int .i64 (gotA (dmanyM du16M 1 2 65535 lq false false))) En18 (by kernel_rfl) (by kernel_rfl) (by kernel_rfl) ?_
 exact ⟨oa5, oc6, xs7, rfl, Hv16.pk [0], hpu8, hf9⟩

theorem samenum_go (w : World) (ap : Option Addr) (cp : Nat) (xp : List RU16) (ip : InS fU16 2 (fun x : RU16 => True) w [] ap cp xp) (aq : Option Addr) (cq : Nat) (xq : List RU16) (iq : InS fU16 2 (fun x : RU16 => True) w [] aq cq xq) : Calls Try.prog 45 #[.slice ap (List.length xp) cp, .slice aq (List.length xq) cq] w fun e w' => e = .returned (.bool (List.map (fun y : RU16 => y) xp == List.map (fun y : RU16 => y) xq)) ∧ Ev w [] w' [] := by
 have hsp := ip.small
 refine d_0 [(0, .slice ap (List.length xp) cp), (1, .slice aq (List.length xq) cq)] 26 Go.Proofs.Try.func45 Go.Proofs.Try.ntmps45 (Heap.nil _) fun act0 En0 Hv0 => ?_
 refine d_s [0,1,4] [] En0 fun ac1 En2 => ?_
 refine wp_seq ?_
 refine d_s [0,1,4,10] [] En2 fun ac3 En4 => ?_
 refine c_n ((List.length xp : Nat) : Int) ((List.length xq : Nat) : Int) En4 (fun hc5 => ?_) (fun hc5 => ?_)
 ·
  refine d_s [0,1,4] [] En4 fun ac6 En7 => ?_
  refine wp_ret ?_
  refine then_ret ?_
  refine d_ret1 (t := 4) (v := .bool false) En7 (by kernel_rfl) (by kernel_rfl) ?_
  exact ⟨congrArg (fun b => Ending.returned (Value.bool b)) (same_len (by omega)), Hv0.pk []⟩
 ·
  refine wp_skip ?_
  refine then_normal ?_
  refine wp_seq ?_
  refine d_s [0,1,4,5] [] En4 fun ac8 En9 => ?_
  refine wp_block ?_
  refine loop_m (fun ms10 ac wo => ∃ (i : Nat), ms10 = (List.length xp + 1 - i : Nat) ∧ Env ac 26 [(0, .slice ap (List.length xp) cp), (1, .slice aq (List.length xq) cq), (5, ni i)] ∧ Ev w [] wo [] ∧ (List.take i (List.map (fun y : RU16 => y) xp) = List.take i (List.map (fun y : RU16 => y) xq))) ⟨_, 0, rfl, En9.sb, Hv0.pk [], rfl⟩ ?_
  rintro mm16 ac12 wo13 ⟨i, rfl, En14, Hv15, hp⟩
  refine wp_seq ?_
  refine d_s [0,1,5,14] [] En14 fun ac17 En18 => ?_
  refine c_d (((i : Nat) : Int) < ((List.length xp : Nat) : Int)) En18 (fun hc19 => ?_) (fun hc19 => ?_)
  ·
   refine wp_skip ?_
   refine then_normal ?_
   refine wp_seq ?_
   refine wp_block ?_
   refine wp_seq ?_
   have hb20 : i < List.length xp := by omega
   obtain ⟨x22, hx21⟩ : ∃ x, (xp)[i]? = some x := ⟨_, List.getElem?_eq_getElem hb20⟩
   obtain _ := ip.each _ (List.mem_of_getElem? hx21)
   obtain ⟨adp, hadp⟩ := some_of ip.nz (show i < List.length xp by omega)
   have hb23 : i < List.length xq := by omega
   obtain ⟨x25, hx24⟩ : ∃ x, (xq)[i]? = some x := ⟨_, List.getElem?_eq_getElem hb23⟩
   obtain _ := iq.each _ (List.mem_of_getElem? hx24)
   obtain ⟨adq, hadq⟩ := some_of iq.nz (show i < List.length xq by omega)
   refine r_c (fun ac wo => Env ac 26 [(0, .slice ap (List.length xp) cp), (1, .slice aq (List.length xq) cq), (5, ni i), (25, .bool (((UInt16.toNat x22 : Nat) : Int) != ((UInt16.toNat x25 : Nat) : Int)))] ∧ Ev w [] wo []) ?_ ?_
   ·
    refine s_g0 [(0, .slice ap (List.length xp) cp), (1, .slice aq (List.length xq) cq), (5, ni i)] [0,1,2,3,4,5,6,7,8] [(17, .slice ap (List.length xp) cp), (18, ni i), (19, .pointer (some (Addr.add adp i))), (20, uv16 x22), (21, .slice aq (List.length xq) cq), (22, ni i), (23, .pointer (some (Addr.add adq i))), (24, uv16 x25), (25, .bool (((UInt16.toNat x22 : Nat) : Int) != ((UInt16.toNat x25 : Nat) : Int)))] 0 [(0, .slice ap (List.length xp) cp), (1, .slice aq (List.length xq) cq), (5, ni i), (25, .bool (((UInt16.toNat x22 : Nat) : Int) != ((UInt16.toNat x25 : Nat) : Int)))] (En18.sb) (Hv15.trans (Ev.drew Hv15.heap)) ?_ fun ac60 wo61 En62 Hv63 => ?_
    ·
     refine s_p [] ?_
     refine s_p [] ?_
     have hb28 : i < List.length xp := (by omega)
     refine s_c (fun Mx29 ac30 wo31 En32 Hv33 => ?_) ?_
     ·
      refine q_v (x := Instr.indexAt 32 (.slice ap (List.length xp) cp) (ni i)) (v := .pointer (some (Addr.add adp i))) En32 (Go.Dbr.run_indexsl (e := 37) (sz := 1) (j := i) (jo := i) hadp (by kernel_rfl) (by kernel_rfl) (by omega) hb28 (Nat.mul_one _) _) fun ac34 En35 => ?_
      exact s_e En35 Hv33
     refine s_c (fun Mx36 ac37 wo38 En39 Hv40 => ?_) ?_
     ·
      refine op_loadf (d := some 20) (t := 37) (ad := adp) (ao := ap) (ys := List.flatMap fU16 xp) (o := i) (v := uv16 x22) En39 (by kernel_rfl) rfl (ip.ro.ev Hv40).reads hadp ((flat_get1 (fun _ _ => rfl) hx21).trans rfl) (by kernel_rfl) ?_
      intro ac41 En42
      exact s_e En42 Hv40
     refine s_p [] ?_
     refine s_p [] ?_
     have hb45 : i < List.length xq := (by omega)
     refine s_c (fun Mx46 ac47 wo48 En49 Hv50 => ?_) ?_
     ·
      refine q_v (x := Instr.indexAt 32 (.slice aq (List.length xq) cq) (ni i)) (v := .pointer (some (Addr.add adq i))) En49 (Go.Dbr.run_indexsl (e := 37) (sz := 1) (j := i) (jo := i) hadq (by kernel_rfl) (by kernel_rfl) (by omega) hb45 (Nat.mul_one _) _) fun ac51 En52 => ?_
      exact s_e En52 Hv50
     refine s_c (fun Mx53 ac54 wo55 En56 Hv57 => ?_) ?_
     ·
      refine op_loadf (d := some 24) (t := 37) (ad := adq) (ao := aq) (ys := List.flatMap fU16 xq) (o := i) (v := uv16 x25) En56 (by kernel_rfl) rfl (iq.ro.ev Hv57).reads hadq ((flat_get1 (fun _ _ => rfl) hx24).trans rfl) (by kernel_rfl) ?_
      intro ac58 En59
      exact s_e En59 Hv57
     refine s_p [] ?_
     exact s_n
    exact a_e ⟨En62.sb, Hv63.pk []⟩
   rintro ac64 wo65 ⟨En66, Hv67⟩
   refine then_normal ?_
   refine c_n ((UInt16.toNat x22 : Nat) : Int) ((UInt16.toNat x25 : Nat) : Int) En66 (fun hc68 => ?_) (fun hc68 => ?_)
   ·
    refine d_s [0,1,4,5] [] En66 fun ac69 En70 => ?_
    refine wp_ret ?_
    refine block_ret ?_
    refine then_ret ?_
    refine then_ret ?_
    refine block_ret ?_
    refine then_ret ?_
    refine d_ret1 (t := 4) (v := .bool false) En70 (by kernel_rfl) (by kernel_rfl) ?_
    exact ⟨congrArg (fun b => Ending.returned (Value.bool b)) (same_no hx21 hx24 (fun g => absurd (congrArg (fun z : UInt16 => ((UInt16.toNat z : Nat) : Int)) g) (by assumption))), Hv67.pk []⟩
   ·
    refine wp_skip ?_
    refine block_normal ?_
    refine then_normal ?_
    refine d_r [0,1,5] [(1, g_n (w_a i 1))] En66 fun ac71 En72 => ?_
    refine then_normal ?_
    refine ⟨_, ⟨i + 1, rfl, En72.sb, Hv67.pk [], (same_step hx21 hx24 (u16_eq (by first | assumption | exact Classical.not_not.1 (by assumption))) hp)⟩, ?_⟩
    omega
  ·
   refine wp_exit ?_
   refine then_exit ?_
   refine then_exit ?_
   refine block_exit ?_
   refine then_normal ?_
   refine d_s [0,1,4,5] [] En18 fun ac73 En74 => ?_
   refine wp_ret ?_
   refine d_ret1 (t := 4) (v := .bool true) En74 (by kernel_rfl) (by kernel_rfl) ?_
   exact ⟨congrArg (fun b => Ending.returned (Value.bool b)) (same_all (by omega) (by omega) hp), Hv15.pk []⟩

end Go.Proofs.Ytofecellbfhnjaa
