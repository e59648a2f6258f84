/- Layer 17: the document's readers. -/
import Derived.Test.YtofecellbfhnjaaW1
namespace Go.Proofs.Ytofecellbfhnjaa
open Go.Dbr
set_option maxRecDepth 100000
set_option maxHeartbeats 2000000
set_option linter.unusedVariables false
set_option linter.unusedSimpArgs false

theorem dtake_go (w : World) (br : Nat) (n : Nat) (hn : n ≤ 9223372036854775807) (a : Option Addr) (c : Nat) (l : List UInt8) (s o : Bool) (i : InB w [.box br [.slice a (List.length l) c, .bool s, .bool o] 154] a c l) (hH : Heap w [.box br [.slice a (List.length l) c, .bool s, .bool o] 154]) : Calls Try.prog 202 #[pt br, ni n] w fun e w' => ∃ ao cap ta tc, e = .returned (.slice ao (List.length (tkO n l s)) cap) ∧ Ev w [.box br [.slice a (List.length l) c, .bool s, .bool o] 154] w' [.box br [.slice ta (List.length (dkR n l s)) tc, .bool (tkS n l s), .bool o] 154, .vec ao cap 1 (bys (tkO n l s)) 5] ∧ Sub a c l ta tc (dkR n l s) := by
 refine d_0 [(0, pt br), (1, ni n)] 40 Go.Proofs.Try.func202 Go.Proofs.Try.ntmps202 (hH) fun act0 En0 Hv0 => ?_
 refine d_s [0,1,4] [] En0 fun ac1 En2 => ?_
 refine wp_seq ?_
 refine wp_seq ?_
 refine region_from ?_
 refine d_k [0,1,4,8] [] 3 En2 fun ac3 En4 => ?_
 refine f_o ?_
 refine m_l 0 En4 Hv0 fun ac5 En6 => ?_
 refine d_k [0,1,4,10] [] 5 En6 fun ac7 En8 => ?_
 rcases Bool.eq_false_or_eq_true (s) with hb9 | hb9
 ·
  have En10 := En8.fx (t := 10) (congrArg Value.bool hb9)
  have hp11 : s = true := hb9
  refine d_e [0,1,4,18] [] En10 fun ac12 En13 => ?_
  refine then_normal ?_
  refine c_t En13 ?_
  refine wp_seq ?_
  refine region_from ?_
  refine d_k [0,1,4,21] [] 3 En13 fun ac14 En15 => ?_
  refine f_o ?_
  refine m_s 0 [.box br [.slice a (List.length l) c, .bool true, .bool o] 154] En15 Hv0 fun ac16 wo17 En18 Hv19 => ?_
  refine f_e ?_
  refine then_normal ?_
  refine d_s [0,1,4] [] En18 fun ac20 En21 => ?_
  refine wp_ret ?_
  refine then_ret ?_
  refine d_ret1 (t := 4) (v := .slice none 0 0) En21 (by kernel_rfl) (by kernel_rfl) ?_
  have eS : tkS n l s = true := by first | exact tk_s (by assumption) | exact tk_n (by omega)
  rw [tkO, dkR, eS]
  exact ⟨none, 0, a, c, rfl, (Ev.nil (sz := 1) (T := 5) Hv19).pk [0, 1], Sub.self⟩
 ·
  have En22 := En8.fx (t := 10) (congrArg Value.bool hb9)
  have hp23 : ¬ (s = true) := Bool.eq_false_iff.1 hb9
  refine d_k [0,1,4,10,11,14] [] 9 En22 fun ac24 En25 => ?_
  refine f_o ?_
  refine m_l 0 En25 Hv0 fun ac26 En27 => ?_
  refine d_e [0,1,4,18] [] En27 fun ac28 En29 => ?_
  refine then_normal ?_
  refine c_d (((n : Nat) : Int) > ((List.length l : Nat) : Int)) En29 (fun hc30 => ?_) (fun hc30 => ?_)
  ·
   refine wp_seq ?_
   refine region_from ?_
   refine d_k [0,1,4,21] [] 3 En29 fun ac31 En32 => ?_
   refine f_o ?_
   refine m_s 0 [.box br [.slice a (List.length l) c, .bool true, .bool o] 154] En32 Hv0 fun ac33 wo34 En35 Hv36 => ?_
   refine f_e ?_
   refine then_normal ?_
   refine d_s [0,1,4] [] En35 fun ac37 En38 => ?_
   refine wp_ret ?_
   refine then_ret ?_
   refine d_ret1 (t := 4) (v := .slice none 0 0) En38 (by kernel_rfl) (by kernel_rfl) ?_
   have eS : tkS n l s = true := by first | exact tk_s (by assumption) | exact tk_n (by omega)
   rw [tkO, dkR, eS]
   exact ⟨none, 0, a, c, rfl, (Ev.nil (sz := 1) (T := 5) Hv36).pk [0, 1], Sub.self⟩
  ·
   refine wp_skip ?_
   refine then_normal ?_
   refine wp_seq ?_
   refine region_from ?_
   refine f_o ?_
   refine op_lit (d := some 22) (t := 23) (T := 5) (m := 0) (parts := #[]) (xs := bys []) (sz := 1) En29 (by kernel_rfl) (by kernel_rfl) rfl (by decide) Hv0 ?_
   intro ac40 wo41 bk39 En42 Hv43
   refine d_k [0,1,4,22,25] [] 4 En42 fun ac44 En45 => ?_
   refine f_o ?_
   refine m_l 0 En45 Hv43 fun ac46 En47 => ?_
   refine d_k [0,1,4,22,26,27] [] 6 En47 fun ac48 En49 => ?_
   refine f_o ?_
   have hcap50 := i.cap
   refine op_slice0 (d := some 28) (t := 23) (e := 5) (sz := 1) (len := List.length l) (cap := c) (hi := n) (ao := a) (lov := none) (hiv := (some (ni n))) En49 (by kernel_rfl) (by kernel_rfl) (by kernel_rfl) (by omega) (.inl ⟨rfl, rfl⟩) (.inr ⟨.i64, rfl⟩) ?_
   intro ac51 En52
   refine f_o ?_
   refine op_append (d := some 29) (t := 23) (tx := 23) (ty := 23) (k := 1) (p := 0) (m := n) (x := .slice a n c) (bytes := 1) En52 (by kernel_rfl) Hv43 rfl rfl (Reads.src (size := 1) (tx := 23) (e' := 5) (by kernel_rfl) (bys_take_reads (i.ev Hv43).reads n) (bys_lenn (by first | (simp; done) | (simp; omega))) (fun e => by have := i.nz e; omega) (bys_one _)) (by kernel_rfl) (z := .int .u8 0) (by kernel_rfl) rfl (by decide) (by have := i.small; omega) (by unfold maxLen; omega) ?_
   intro ac57 wo58 ao53 cp54 En59 Hv60 hnz _
   clear hnz
   rw [bys_nil_append] at Hv60
   have ehz55 : 0 + n = List.length (List.take n l) := (by first | (simp; done) | (simp; omega) | omega)
   rw [ehz55] at En59
   refine d_e [0,1,4,5] [] En59 fun ac61 En62 => ?_
   refine then_normal ?_
   refine wp_seq ?_
   refine region_from ?_
   refine d_k [0,1,4,5,30,33] [] 4 En62 fun ac63 En64 => ?_
   refine f_o ?_
   refine m_l 0 En64 Hv60 fun ac65 En66 => ?_
   refine d_k [0,1,4,5,30,34,35] [] 6 En66 fun ac67 En68 => ?_
   refine f_o ?_
   have hcap69 := i.cap
   refine op_slice (d := some 36) (t := 23) (e := 5) (sz := 1) (len := List.length l) (cap := c) (lo := n) (hi := List.length l) (ao := a) (lov := (some (ni n))) (hiv := none) En68 (by kernel_rfl) (by kernel_rfl) (by kernel_rfl) (by omega) (by omega) (.inr ⟨.i64, rfl⟩) (.inl ⟨rfl, rfl⟩) ?_
   intro ac70 En71
   refine d_k [0,1,4,5,36,38] [] 9 En71 fun ac72 En73 => ?_
   refine f_o ?_
   refine m_s 0 [.box br [.slice (cutAt a c n 1) ((List.length l) - n) (c - n), .bool s, .bool o] 154, .vec ao53 cp54 1 (bys (List.take n l)) 5] En73 Hv60 fun ac74 wo75 En76 Hv77 => ?_
   refine f_e ?_
   refine then_normal ?_
   refine d_s [0,1,4] [] En76 fun ac78 En79 => ?_
   refine wp_ret ?_
   refine d_ret1 (t := 4) (v := .slice ao53 (List.length (List.take n l)) cp54) En79 (by kernel_rfl) (by kernel_rfl) ?_
   have eS : tkS n l s = false := tk_y (by assumption) (by omega)
   rw [tkO, dkR, eS, Bool.cond_false, Bool.cond_false]
   rw [show List.length l - n = List.length (List.drop n l) from List.length_drop.symm] at Hv77
   have es : s = false := Bool.eq_false_iff.2 (by assumption)
   subst es
   exact ⟨ao53, cp54, cutAt a c n 1, c - n, rfl, Hv77.pk [0, 1], sub_drop n (by omega)⟩

theorem dnumber_go (w : World) (br : Nat) (n : Nat) (hn : n ≤ 4) (a : Option Addr) (c : Nat) (l : List UInt8) (s o : Bool) (i : InB w [.box br [.slice a (List.length l) c, .bool s, .bool o] 154] a c l) (hH : Heap w [.box br [.slice a (List.length l) c, .bool s, .bool o] 154]) : Calls Try.prog 140 #[pt br, ni n] w fun e w' => ∃ ta tc, e = .returned (.int .i64 ((nbV n l s : Nat) : Int)) ∧ Ev w [.box br [.slice a (List.length l) c, .bool s, .bool o] 154] w' [.box br [.slice ta (List.length (dkR n l s)) tc, .bool (tkS n l s), .bool o] 154] ∧ Sub a c l ta tc (dkR n l s) := by
 refine d_0 [(0, pt br), (1, ni n)] 26 Go.Proofs.Try.func140 Go.Proofs.Try.ntmps140 (hH) fun act0 En0 Hv0 => ?_
 refine wp_seq ?_
 refine d_r [0,1,4] [] En0 fun ac1 En2 => ?_
 refine then_normal ?_
 refine wp_seq ?_
 refine region_from ?_
 refine d_k [4,8,9] [] 2 En2 fun ac3 En4 => ?_
 refine f_o ?_
 refine c_l [0] (M := [.box br [.slice a (List.length l) c, .bool s, .bool o] 154]) En4 Hv0 (fun hM10 => dtake_go _ br n (by omega) a c l s o ((i.ev Hv0).pick [0] (by kernel_rfl)) hM10) ?_
 rintro _ wo11 ⟨ao5, cp6, ta7, tc8, rfl, he12, hs9⟩
 refine ⟨_, _, [.box br [.slice ta7 (List.length (dkR n l s)) tc8, .bool (tkS n l s), .bool o] 154, .vec ao5 cp6 1 (bys (tkO n l s)) 5], rfl, he12, by kernel_rfl, fun ac14 En15 Hv16 => ?_⟩
 refine d_e [4,5] [] En15 fun ac17 En18 => ?_
 have hO := tkO_len n l s
 refine then_normal ?_
 refine wp_seq ?_
 refine d_r [4,5,6] [] En18 fun ac19 En20 => ?_
 refine then_normal ?_
 refine wp_seq ?_
 refine wp_seq ?_
 refine d_r [4,5,6,7] [] En20 fun ac21 En22 => ?_
 refine then_normal ?_
 refine wp_block ?_
 refine loop_m (fun ms23 ac wo => ∃ (j : Nat) (v : Nat), ms23 = (List.length (tkO n l s) - j : Nat) ∧ Env ac 26 [(4, .int .i64 0), (5, .slice ao5 (List.length (tkO n l s)) cp6), (6, ni v), (7, ni j)] ∧ Ev w [.box br [.slice a (List.length l) c, .bool s, .bool o] 154] wo [.box br [.slice ta7 (List.length (dkR n l s)) tc8, .bool (tkS n l s), .bool o] 154, .vec ao5 cp6 1 (bys (tkO n l s)) 5] ∧ (j ≤ List.length (tkO n l s)) ∧ (v = beV (List.take j (tkO n l s))) ∧ (v < 4294967296)) ⟨_, 0, 0, rfl, En22.sb, Hv16.pk [0, 1], (by omega), rfl, (by omega)⟩ ?_
 rintro mm29 ac25 wo26 ⟨j, v, rfl, En27, Hv28, hj, hv, hb⟩
 refine wp_seq ?_
 refine wp_seq ?_
 refine d_r [4,5,6,7,14] [] En27 fun ac30 En31 => ?_
 refine then_normal ?_
 refine c_d (((j : Nat) : Int) < ((List.length (tkO n l s) : Nat) : Int)) En31 (fun hc32 => ?_) (fun hc32 => ?_)
 ·
  refine wp_skip ?_
  refine then_normal ?_
  refine wp_seq ?_
  refine wp_block ?_
  have hub := u8_lt (List.getD (tkO n l s) j 0)
  have hb35 : j < List.length (tkO n l s) := (by omega)
  obtain ⟨adr33, had34⟩ := some_of (bys_vnz Hv28.heap (k := 1) rfl) hb35
  refine region_from ?_
  refine d_k [4,5,6,7,18,19,20] [(1, g_n (w_m 256 v))] 4 En31 fun ac36 En37 => ?_
  refine f_o ?_
  refine q_v (x := Instr.indexAt 23 (.slice ao5 (List.length (tkO n l s)) cp6) (ni j)) (v := .pointer (some (Addr.add adr33 j))) En37 (Go.Dbr.run_indexsl (e := 5) (sz := 1) (j := j) (jo := j) had34 (by kernel_rfl) (by kernel_rfl) (by omega) hb35 (Nat.mul_one _) _) fun ac38 En39 => ?_
  refine f_o ?_
  have hb40 : j < List.length (tkO n l s) := by omega
  refine op_loadel (d := some 22) (t := 5) (ad := adr33) (ao := ao5) (xs := bys (tkO n l s)) (j := j) (v := .int .u8 ((UInt8.toNat (List.getD (tkO n l s) j 0) : Nat) : Int)) En39 (by kernel_rfl) (Hv28.heap.reads (k := 1) rfl) had34 (bys_getD hb40) (by kernel_rfl) ?_
  intro ac41 En42
  refine d_e [4,5,6,7] [(6, g_i .i64 (Go.Dbr.u8_to_i64 (x := List.getD (tkO n l s) j 0) rfl)), (7, g_i .i64 (show IntKind.wrap .i64 (((256 * v : Nat) : Int) + ((UInt8.toNat (List.getD (tkO n l s) j 0) : Nat) : Int)) = ((v * 256 + UInt8.toNat (List.getD (tkO n l s) j 0) : Nat) : Int) from Go.Dbr.wr64 (by omega) (by omega) (by omega)))] En42 fun ac43 En44 => ?_
  refine block_normal ?_
  refine then_normal ?_
  refine d_r [4,5,6,7] [(1, g_n (w_a j 1))] En44 fun ac45 En46 => ?_
  refine then_normal ?_
  refine ⟨_, ⟨j + 1, v * 256 + UInt8.toNat (List.getD (tkO n l s) j 0), rfl, En46.sb, Hv28.pk [0, 1], (by omega), (by rw [hv]; exact (beV_take (by omega)).symm), (by have h4 := beV_4 (l := List.take (j + 1) (tkO n l s)) (by rw [List.length_take]; omega); rw [beV_take (by omega), ← hv] at h4; exact h4)⟩, ?_⟩
  omega
 ·
  refine wp_exit ?_
  refine then_exit ?_
  refine then_exit ?_
  refine block_exit ?_
  refine then_normal ?_
  refine wp_seq ?_
  refine d_r [4,5,6,7] [] En31 fun ac47 En48 => ?_
  refine then_normal ?_
  refine wp_ret ?_
  refine d_ret1 (t := 4) (v := ni v) En48 (by kernel_rfl) (by kernel_rfl) ?_
  have hje : List.take j (tkO n l s) = tkO n l s := List.take_of_length_le (by omega)
  rw [hje] at hv
  exact ⟨ta7, tc8, by rw [hv]; rfl, Hv28.pk [0], hs9⟩

theorem ldO_len (n x y : Nat) (l : Bs) (s : Bool) : (ldO n x y l s).length ≤ l.length := by
  have h : ∀ (k : Nat) (m : Bs) (t : Bool), (tkO k m t).length ≤ m.length := fun k m t => by
    unfold tkO
    cases tkS k m t with
    | true => exact Nat.zero_le _
    | false => rw [Bool.cond_false, List.length_take]; omega
  exact Nat.le_trans (h _ _ _) (dkR_len _ _ _)
theorem ldR_len (n x y : Nat) (l : Bs) (s : Bool) : (ldR n x y l s).length ≤ l.length := Nat.le_trans (dkR_len _ _ _) (dkR_len _ _ _)

theorem dlist_go (w : World) (br : Nat) (n : Nat) (hn : n ≤ 4) (x y : Nat) (hx : x ≤ 4294967295) (hy : y ≤ 4294967295) (a : Option Addr) (c : Nat) (l : List UInt8) (s o : Bool) (i : InB w [.box br [.slice a (List.length l) c, .bool s, .bool o] 154] a c l) (hH : Heap w [.box br [.slice a (List.length l) c, .bool s, .bool o] 154]) : Calls Try.prog 141 #[pt br, ni n, ni x, ni y] w fun e w' => ∃ ao cap ta tc, e = .returned (.slice ao (List.length (ldO n x y l s)) cap) ∧ Ev w [.box br [.slice a (List.length l) c, .bool s, .bool o] 154] w' [.box br [.slice ta (List.length (ldR n x y l s)) tc, .bool (ldS n x y l s), .bool o] 154, .vec ao cap 1 (bys (ldO n x y l s)) 5] ∧ Sub a c l ta tc (ldR n x y l s) := by
 refine d_0 [(0, pt br), (1, ni n), (2, ni x), (3, ni y)] 27 Go.Proofs.Try.func141 Go.Proofs.Try.ntmps141 (hH) fun act0 En0 Hv0 => ?_
 refine d_s [0,1,2,3,8] [] En0 fun ac1 En2 => ?_
 refine wp_seq ?_
 refine region_from ?_
 refine d_k [0,2,3,8,10,11] [] 2 En2 fun ac3 En4 => ?_
 refine f_o ?_
 refine c_l [0] (M := [.box br [.slice a (List.length l) c, .bool s, .bool o] 154]) En4 Hv0 (fun hM8 => dnumber_go _ br n (by omega) a c l s o ((i.ev Hv0).pick [0] (by kernel_rfl)) hM8) ?_
 rintro _ wo9 ⟨ta5, tc6, rfl, he10, hs7⟩
 refine ⟨_, _, [.box br [.slice ta5 (List.length (dkR n l s)) tc6, .bool (tkS n l s), .bool o] 154], rfl, he10, by kernel_rfl, fun ac12 En13 Hv14 => ?_⟩
 refine d_e [0,2,3,8,9] [] En13 fun ac15 En16 => ?_
 have hk4 := nbV_4 hn l s
 refine then_normal ?_
 refine wp_seq ?_
 refine wp_seq ?_
 refine region_from ?_
 refine d_k [0,3,8,9,16] [] 4 En16 fun ac17 En18 => ?_
 rcases Bool.eq_false_or_eq_true (decide (((nbV n l s : Nat) : Int) < ((x : Nat) : Int))) with hb19 | hb19
 ·
  have En20 := En18.fx (t := 16) (congrArg Value.bool hb19)
  have hp21 : ((nbV n l s : Nat) : Int) < ((x : Nat) : Int) := of_decide_eq_true hb19
  refine d_e [0,8,9,20] [] En20 fun ac22 En23 => ?_
  refine then_normal ?_
  refine c_t En23 ?_
  refine region_from ?_
  refine d_k [0,8,9,23] [] 3 En23 fun ac24 En25 => ?_
  refine f_o ?_
  refine m_s 0 [.box br [.slice ta5 (List.length (dkR n l s)) tc6, .bool true, .bool o] 154] En25 Hv14 fun ac26 wo27 En28 Hv29 => ?_
  refine f_e ?_
  refine then_normal ?_
  refine wp_seq ?_
  refine region_from ?_
  refine d_k [0,8,9,24,25] [] 2 En28 fun ac30 En31 => ?_
  refine f_o ?_
  refine c_l [0] (M := [.box br [.slice ta5 (List.length (dkR n l s)) tc6, .bool true, .bool o] 154]) En31 Hv29 (fun hM37 => dtake_go _ br (nbV n l s) (by omega) ta5 tc6 (dkR n l s) true o (hs7 _ _ ((i.ev Hv29).pick [0] (by kernel_rfl))) hM37) ?_
  rintro _ wo38 ⟨ao32, cp33, ta34, tc35, rfl, he39, hs36⟩
  refine ⟨_, _, [.box br [.slice ta34 (List.length (dkR (nbV n l s) (dkR n l s) true)) tc35, .bool (tkS (nbV n l s) (dkR n l s) true), .bool o] 154, .vec ao32 cp33 1 (bys (tkO (nbV n l s) (dkR n l s) true)) 5], rfl, he39, by kernel_rfl, fun ac41 En42 Hv43 => ?_⟩
  refine d_e [0,8,9] [] En42 fun ac44 En45 => ?_
  refine then_normal ?_
  refine wp_ret ?_
  refine d_ret1 (t := 8) (v := .slice ao32 (List.length (tkO (nbV n l s) (dkR n l s) true)) cp33) En45 (by kernel_rfl) (by kernel_rfl) ?_
  have eT : lsT n x y l s = true := by first | exact lsT_1 (by omega) | exact lsT_2 (by omega) | exact lsT_0 (by omega) (by omega)
  simp only [ldO, ldR, ldS, eT]
  exact ⟨ao32, cp33, ta34, tc35, rfl, Hv43.pk [0, 1], (hs7.trans hs36)⟩
 ·
  have En46 := En18.fx (t := 16) (congrArg Value.bool hb19)
  have hp47 : ¬ (((nbV n l s : Nat) : Int) < ((x : Nat) : Int)) := of_decide_eq_false hb19
  refine d_e [0,8,9,20] [] En46 fun ac48 En49 => ?_
  refine then_normal ?_
  refine c_d (((nbV n l s : Nat) : Int) > ((y : Nat) : Int)) En49 (fun hc50 => ?_) (fun hc50 => ?_)
  ·
   refine region_from ?_
   refine d_k [0,8,9,23] [] 3 En49 fun ac51 En52 => ?_
   refine f_o ?_
   refine m_s 0 [.box br [.slice ta5 (List.length (dkR n l s)) tc6, .bool true, .bool o] 154] En52 Hv14 fun ac53 wo54 En55 Hv56 => ?_
   refine f_e ?_
   refine then_normal ?_
   refine wp_seq ?_
   refine region_from ?_
   refine d_k [0,8,9,24,25] [] 2 En55 fun ac57 En58 => ?_
   refine f_o ?_
   refine c_l [0] (M := [.box br [.slice ta5 (List.length (dkR n l s)) tc6, .bool true, .bool o] 154]) En58 Hv56 (fun hM64 => dtake_go _ br (nbV n l s) (by omega) ta5 tc6 (dkR n l s) true o (hs7 _ _ ((i.ev Hv56).pick [0] (by kernel_rfl))) hM64) ?_
   rintro _ wo65 ⟨ao59, cp60, ta61, tc62, rfl, he66, hs63⟩
   refine ⟨_, _, [.box br [.slice ta61 (List.length (dkR (nbV n l s) (dkR n l s) true)) tc62, .bool (tkS (nbV n l s) (dkR n l s) true), .bool o] 154, .vec ao59 cp60 1 (bys (tkO (nbV n l s) (dkR n l s) true)) 5], rfl, he66, by kernel_rfl, fun ac68 En69 Hv70 => ?_⟩
   refine d_e [0,8,9] [] En69 fun ac71 En72 => ?_
   refine then_normal ?_
   refine wp_ret ?_
   refine d_ret1 (t := 8) (v := .slice ao59 (List.length (tkO (nbV n l s) (dkR n l s) true)) cp60) En72 (by kernel_rfl) (by kernel_rfl) ?_
   have eT : lsT n x y l s = true := by first | exact lsT_1 (by omega) | exact lsT_2 (by omega) | exact lsT_0 (by omega) (by omega)
   simp only [ldO, ldR, ldS, eT]
   exact ⟨ao59, cp60, ta61, tc62, rfl, Hv70.pk [0, 1], (hs7.trans hs63)⟩
  ·
   refine wp_skip ?_
   refine then_normal ?_
   refine wp_seq ?_
   refine region_from ?_
   refine d_k [0,8,9,24,25] [] 2 En49 fun ac73 En74 => ?_
   refine f_o ?_
   refine c_l [0] (M := [.box br [.slice ta5 (List.length (dkR n l s)) tc6, .bool (tkS n l s), .bool o] 154]) En74 Hv14 (fun hM80 => dtake_go _ br (nbV n l s) (by omega) ta5 tc6 (dkR n l s) (tkS n l s) o (hs7 _ _ ((i.ev Hv14).pick [0] (by kernel_rfl))) hM80) ?_
   rintro _ wo81 ⟨ao75, cp76, ta77, tc78, rfl, he82, hs79⟩
   refine ⟨_, _, [.box br [.slice ta77 (List.length (dkR (nbV n l s) (dkR n l s) (tkS n l s))) tc78, .bool (tkS (nbV n l s) (dkR n l s) (tkS n l s)), .bool o] 154, .vec ao75 cp76 1 (bys (tkO (nbV n l s) (dkR n l s) (tkS n l s))) 5], rfl, he82, by kernel_rfl, fun ac84 En85 Hv86 => ?_⟩
   refine d_e [0,8,9] [] En85 fun ac87 En88 => ?_
   refine then_normal ?_
   refine wp_ret ?_
   refine d_ret1 (t := 8) (v := .slice ao75 (List.length (tkO (nbV n l s) (dkR n l s) (tkS n l s))) cp76) En88 (by kernel_rfl) (by kernel_rfl) ?_
   have eT : lsT n x y l s = tkS n l s := by first | exact lsT_1 (by omega) | exact lsT_2 (by omega) | exact lsT_0 (by omega) (by omega)
   simp only [ldO, ldR, ldS, eT]
   exact ⟨ao75, cp76, ta77, tc78, rfl, Hv86.pk [0, 1], (hs7.trans hs79)⟩

theorem dpart_go (w : World) (br : Nat) (n : Nat) (hn : n ≤ 4) (x y : Nat) (hx : x ≤ 4294967295) (hy : y ≤ 4294967295) (a : Option Addr) (c : Nat) (l : List UInt8) (s o : Bool) (i : InB w [.box br [.slice a (List.length l) c, .bool s, .bool o] 154] a c l) (hH : Heap w [.box br [.slice a (List.length l) c, .bool s, .bool o] 154]) : Calls Try.prog 139 #[pt br, ni n, ni x, ni y] w fun e w' => ∃ bp ao cap ta tc, e = .returned (pt bp) ∧ Ev w [.box br [.slice a (List.length l) c, .bool s, .bool o] 154] w' [.box br [.slice ta (List.length (ldR n x y l s)) tc, .bool (ldS n x y l s), .bool o] 154, .box bp [.slice ao (List.length (ldO n x y l s)) cap, .bool (ldS n x y l s), .bool false] 154, .vec ao cap 1 (bys (ldO n x y l s)) 5] ∧ Sub a c l ta tc (ldR n x y l s) := by
 refine d_0 [(0, pt br), (1, ni n), (2, ni x), (3, ni y)] 22 Go.Proofs.Try.func139 Go.Proofs.Try.ntmps139 (hH) fun act0 En0 Hv0 => ?_
 refine d_s [0,1,2,3,8] [] En0 fun ac1 En2 => ?_
 refine wp_seq ?_
 refine region_from ?_
 refine d_k [0,8,10,11,12,13] [] 4 En2 fun ac3 En4 => ?_
 refine f_o ?_
 refine c_l [0] (M := [.box br [.slice a (List.length l) c, .bool s, .bool o] 154]) En4 Hv0 (fun hM10 => dlist_go _ br n (by omega) x y (by omega) (by omega) a c l s o ((i.ev Hv0).pick [0] (by kernel_rfl)) hM10) ?_
 rintro _ wo11 ⟨ao5, cp6, ta7, tc8, rfl, he12, hs9⟩
 refine ⟨_, _, [.box br [.slice ta7 (List.length (ldR n x y l s)) tc8, .bool (ldS n x y l s), .bool o] 154, .vec ao5 cp6 1 (bys (ldO n x y l s)) 5], rfl, he12, by kernel_rfl, fun ac14 En15 Hv16 => ?_⟩
 refine d_e [0,8,9] [] En15 fun ac17 En18 => ?_
 refine then_normal ?_
 refine wp_seq ?_
 refine region_from ?_
 refine d_k [0,8,15,18] [] 4 En18 fun ac19 En20 => ?_
 refine f_o ?_
 refine m_l 0 En20 Hv16 fun ac21 En22 => ?_
 refine d_k [0,8,20] [] 6 En22 fun ac23 En24 => ?_
 refine f_o ?_
 refine m_m 154 [.slice ao5 (List.length (ldO n x y l s)) cp6, .bool (ldS n x y l s), .bool false] En24 Hv16 fun ac26 wo27 bk25 En28 Hv29 => ?_
 refine d_e [0,8] [] En28 fun ac30 En31 => ?_
 refine then_normal ?_
 refine wp_ret ?_
 refine d_ret1 (t := 8) (v := pt bk25) En31 (by kernel_rfl) (by kernel_rfl) ?_
 exact ⟨bk25, ao5, cp6, ta7, tc8, rfl, Hv29.pk [0, 2, 1], hs9⟩

def endV (s : Bool) (n : Nat) (o : Bool) : Int := if s = true ∨ 0 < n then 50 else if o = true then 47 else 0
theorem end_1 {s : Bool} {n : Nat} {o : Bool} (h : s = true) : (50 : Int) = endV s n o := by rw [endV, if_pos (.inl h)]
theorem end_2 {s : Bool} {n : Nat} {o : Bool} (h : 0 < n) : (50 : Int) = endV s n o := by rw [endV, if_pos (.inr h)]
theorem end_3 {s : Bool} {n : Nat} {o : Bool} (h : ¬ s = true) (h2 : ¬ 0 < n) (h3 : o = true) : (47 : Int) = endV s n o := by rw [endV, if_neg (fun g => g.elim h h2), if_pos h3]
theorem end_4 {s : Bool} {n : Nat} {o : Bool} (h : ¬ s = true) (h2 : ¬ 0 < n) (h3 : ¬ o = true) : (0 : Int) = endV s n o := by rw [endV, if_neg (fun g => g.elim h h2), if_neg h3]

theorem dmore_t (w : World) (br : Nat) (a : Option Addr) (n c : Nat) (o : Bool) (hH : Heap w [.box br [.slice a n c, .bool true, .bool o] 154]) : Calls Try.prog 142 #[pt br] w fun e w' => e = .returned (.bool false) ∧ Ev w [.box br [.slice a n c, .bool true, .bool o] 154] w' [.box br [.slice a n c, .bool true, .bool o] 154] := by
 refine d_0 [(0, pt br)] 16 Go.Proofs.Try.func142 Go.Proofs.Try.ntmps142 (hH) fun act0 En0 Hv0 => ?_
 refine d_s [0,2] [] En0 fun ac1 En2 => ?_
 refine wp_seq ?_
 refine region_from ?_
 refine d_k [0,2,5] [] 3 En2 fun ac3 En4 => ?_
 refine f_o ?_
 refine m_l 0 En4 Hv0 fun ac5 En6 => ?_
 refine d_e [2] [] En6 fun ac7 En8 => ?_
 refine then_normal ?_
 refine wp_ret ?_
 refine d_ret1 (t := 2) (v := .bool false) En8 (by kernel_rfl) (by kernel_rfl) ?_
 exact ⟨rfl, Hv0.pk [0]⟩

theorem dmore_f (w : World) (br : Nat) (a : Option Addr) (n c : Nat) (o : Bool) (hH : Heap w [.box br [.slice a n c, .bool false, .bool o] 154]) : Calls Try.prog 142 #[pt br] w fun e w' => e = .returned (.bool (decide (0 < n))) ∧ Ev w [.box br [.slice a n c, .bool false, .bool o] 154] w' [.box br [.slice a n c, .bool false, .bool o] 154] := by
 refine d_0 [(0, pt br)] 16 Go.Proofs.Try.func142 Go.Proofs.Try.ntmps142 (hH) fun act0 En0 Hv0 => ?_
 refine d_s [0,2] [] En0 fun ac1 En2 => ?_
 refine wp_seq ?_
 refine region_from ?_
 refine d_k [0,2,5] [] 3 En2 fun ac3 En4 => ?_
 refine f_o ?_
 refine m_l 0 En4 Hv0 fun ac5 En6 => ?_
 refine d_k [2,8,11] [] 9 En6 fun ac7 En8 => ?_
 refine f_o ?_
 refine m_l 0 En8 Hv0 fun ac9 En10 => ?_
 refine d_e [2] [] En10 fun ac11 En12 => ?_
 refine then_normal ?_
 refine wp_ret ?_
 refine d_ret1 (t := 2) (v := .bool (decide (((n : Nat) : Int) > (0 : Int)))) En12 (by kernel_rfl) (by kernel_rfl) ?_
 exact ⟨congrArg (fun b => Ending.returned (Value.bool b)) (decide_eq_decide.2 (by omega)), Hv0.pk [0]⟩

theorem dmore_go (w : World) (br : Nat) (a : Option Addr) (n c : Nat) (s o : Bool) (hH : Heap w [.box br [.slice a n c, .bool s, .bool o] 154]) : Calls Try.prog 142 #[pt br] w fun e w' => e = .returned (.bool (!s && decide (0 < n))) ∧ Ev w [.box br [.slice a n c, .bool s, .bool o] 154] w' [.box br [.slice a n c, .bool s, .bool o] 154] := by
  cases s
  · exact dmore_f w br a n c o hH
  · exact dmore_t w br a n c o hH

theorem dend_go (w : World) (br : Nat) (a : Option Addr) (n c : Nat) (s o : Bool) (hH : Heap w [.box br [.slice a n c, .bool s, .bool o] 154]) : Calls Try.prog 144 #[pt br] w fun e w' => e = .returned (.int .i64 (endV s n o)) ∧ Ev w [.box br [.slice a n c, .bool s, .bool o] 154] w' [.box br [.slice a n c, .bool s, .bool o] 154] := by
 refine d_0 [(0, pt br)] 19 Go.Proofs.Try.func144 Go.Proofs.Try.ntmps144 (hH) fun act0 En0 Hv0 => ?_
 refine d_s [0,2] [] En0 fun ac1 En2 => ?_
 refine wp_seq ?_
 refine wp_seq ?_
 refine region_from ?_
 refine d_k [0,2,5] [] 3 En2 fun ac3 En4 => ?_
 refine f_o ?_
 refine m_l 0 En4 Hv0 fun ac5 En6 => ?_
 refine d_k [0,2,7] [] 5 En6 fun ac7 En8 => ?_
 rcases Bool.eq_false_or_eq_true (s) with hb9 | hb9
 ·
  have En10 := En8.fx (t := 7) (congrArg Value.bool hb9)
  have hp11 : s = true := hb9
  refine d_e [0,2,14] [] En10 fun ac12 En13 => ?_
  refine then_normal ?_
  refine c_t En13 ?_
  refine d_s [0,2] [] En13 fun ac14 En15 => ?_
  refine wp_ret ?_
  refine then_ret ?_
  refine d_ret1 (t := 2) (v := .int .i64 50) En15 (by kernel_rfl) (by kernel_rfl) ?_
  exact ⟨congrArg (fun z => Ending.returned (Value.int .i64 z)) (by first | exact end_1 (by assumption) | exact end_2 (by omega) | exact end_3 (by assumption) (by omega) (by assumption) | exact end_4 (by assumption) (by omega) (by assumption)), Hv0.pk [0]⟩
 ·
  have En16 := En8.fx (t := 7) (congrArg Value.bool hb9)
  have hp17 : ¬ (s = true) := Bool.eq_false_iff.1 hb9
  refine d_k [0,2,7,10] [] 8 En16 fun ac18 En19 => ?_
  refine f_o ?_
  refine m_l 0 En19 Hv0 fun ac20 En21 => ?_
  refine d_e [0,2,14] [] En21 fun ac22 En23 => ?_
  refine then_normal ?_
  refine c_d (((n : Nat) : Int) > (0 : Int)) En23 (fun hc24 => ?_) (fun hc24 => ?_)
  ·
   refine d_s [0,2] [] En23 fun ac25 En26 => ?_
   refine wp_ret ?_
   refine then_ret ?_
   refine d_ret1 (t := 2) (v := .int .i64 50) En26 (by kernel_rfl) (by kernel_rfl) ?_
   exact ⟨congrArg (fun z => Ending.returned (Value.int .i64 z)) (by first | exact end_1 (by assumption) | exact end_2 (by omega) | exact end_3 (by assumption) (by omega) (by assumption) | exact end_4 (by assumption) (by omega) (by assumption)), Hv0.pk [0]⟩
  ·
   refine wp_skip ?_
   refine then_normal ?_
   refine wp_seq ?_
   refine wp_seq ?_
   refine region_from ?_
   refine d_k [0,2,17] [] 3 En23 fun ac27 En28 => ?_
   refine f_o ?_
   refine m_l 0 En28 Hv0 fun ac29 En30 => ?_
   refine f_e ?_
   refine then_normal ?_
   refine cond_at En30 (t := o) (by kernel_rfl) (fun hc31 => ?_) (fun hc31 => ?_)
   ·
    replace hc31 : o = true := hc31
    refine d_s [0,2] [] En30 fun ac32 En33 => ?_
    refine wp_ret ?_
    refine then_ret ?_
    refine d_ret1 (t := 2) (v := .int .i64 47) En33 (by kernel_rfl) (by kernel_rfl) ?_
    exact ⟨congrArg (fun z => Ending.returned (Value.int .i64 z)) (by first | exact end_1 (by assumption) | exact end_2 (by omega) | exact end_3 (by assumption) (by omega) (by assumption) | exact end_4 (by assumption) (by omega) (by assumption)), Hv0.pk [0]⟩
   ·
    replace hc31 : ¬ (o = true) := Bool.eq_false_iff.1 hc31
    refine wp_skip ?_
    refine then_normal ?_
    refine d_s [0,2] [] En30 fun ac34 En35 => ?_
    refine wp_ret ?_
    refine d_ret1 (t := 2) (v := .int .i64 0) En35 (by kernel_rfl) (by kernel_rfl) ?_
    exact ⟨congrArg (fun z => Ending.returned (Value.int .i64 z)) (by first | exact end_1 (by assumption) | exact end_2 (by omega) | exact end_3 (by assumption) (by omega) (by assumption) | exact end_4 (by assumption) (by omega) (by assumption)), Hv0.pk [0]⟩

theorem dwith_tt (w : World) (br bp : Nat) (a : Option Addr) (n c : Nat) (a1 : Option Addr) (n1 c1 : Nat) (s1 o1 : Bool) (hH : Heap w [.box br [.slice a n c, .bool true, .bool true] 154, .box bp [.slice a1 n1 c1, .bool s1, .bool o1] 154]) : Calls Try.prog 143 #[pt br, pt bp] w fun e w' => e = .returned (.tuple #[]) ∧ Ev w [.box br [.slice a n c, .bool true, .bool true] 154, .box bp [.slice a1 n1 c1, .bool s1, .bool o1] 154] w' [.box br [.slice a n c, .bool true, .bool true] 154, .box bp [.slice a1 n1 c1, .bool s1, .bool o1] 154] := by
 refine d_0 [(0, pt br), (1, pt bp)] 30 Go.Proofs.Try.func143 Go.Proofs.Try.ntmps143 (hH) fun act0 En0 Hv0 => ?_
 refine wp_seq ?_
 refine region_from ?_
 refine d_k [0,1,4,7] [] 4 En0 fun ac1 En2 => ?_
 refine f_o ?_
 refine m_l 0 En2 Hv0 fun ac3 En4 => ?_
 refine d_k [0,1,14,16] [] 13 En4 fun ac5 En6 => ?_
 refine f_o ?_
 refine m_s 0 [.box br [.slice a n c, .bool true, .bool true] 154, .box bp [.slice a1 n1 c1, .bool s1, .bool o1] 154] En6 Hv0 fun ac7 wo8 En9 Hv10 => ?_
 refine f_e ?_
 refine then_normal ?_
 refine region_from ?_
 refine d_k [0,1,17,20] [] 4 En9 fun ac11 En12 => ?_
 refine f_o ?_
 refine m_l 0 En12 Hv10 fun ac13 En14 => ?_
 refine d_k [0,1,27,29] [] 13 En14 fun ac15 En16 => ?_
 refine f_o ?_
 refine m_s 0 [.box br [.slice a n c, .bool true, .bool true] 154, .box bp [.slice a1 n1 c1, .bool s1, .bool o1] 154] En16 Hv10 fun ac17 wo18 En19 Hv20 => ?_
 refine f_e ?_
 refine d_end0 En19 (by kernel_rfl) ?_
 exact ⟨rfl, Hv20.pk [0, 1]⟩

theorem dwith_tf (w : World) (br bp : Nat) (a : Option Addr) (n c : Nat) (a1 : Option Addr) (n1 c1 : Nat) (s1 o1 : Bool) (hH : Heap w [.box br [.slice a n c, .bool true, .bool false] 154, .box bp [.slice a1 n1 c1, .bool s1, .bool o1] 154]) : Calls Try.prog 143 #[pt br, pt bp] w fun e w' => e = .returned (.tuple #[]) ∧ Ev w [.box br [.slice a n c, .bool true, .bool false] 154, .box bp [.slice a1 n1 c1, .bool s1, .bool o1] 154] w' [.box br [.slice a n c, .bool true, .bool o1] 154, .box bp [.slice a1 n1 c1, .bool s1, .bool o1] 154] := by
 refine d_0 [(0, pt br), (1, pt bp)] 30 Go.Proofs.Try.func143 Go.Proofs.Try.ntmps143 (hH) fun act0 En0 Hv0 => ?_
 refine wp_seq ?_
 refine region_from ?_
 refine d_k [0,1,4,7] [] 4 En0 fun ac1 En2 => ?_
 refine f_o ?_
 refine m_l 0 En2 Hv0 fun ac3 En4 => ?_
 refine d_k [0,1,14,16] [] 13 En4 fun ac5 En6 => ?_
 refine f_o ?_
 refine m_s 0 [.box br [.slice a n c, .bool true, .bool false] 154, .box bp [.slice a1 n1 c1, .bool s1, .bool o1] 154] En6 Hv0 fun ac7 wo8 En9 Hv10 => ?_
 refine f_e ?_
 refine then_normal ?_
 refine region_from ?_
 refine d_k [0,1,17,20] [] 4 En9 fun ac11 En12 => ?_
 refine f_o ?_
 refine m_l 0 En12 Hv10 fun ac13 En14 => ?_
 refine d_k [0,1,17,22,25] [] 9 En14 fun ac15 En16 => ?_
 refine f_o ?_
 refine m_l 1 En16 Hv10 fun ac17 En18 => ?_
 refine d_k [0,1,27,29] [] 13 En18 fun ac19 En20 => ?_
 refine f_o ?_
 refine m_s 0 [.box br [.slice a n c, .bool true, .bool o1] 154, .box bp [.slice a1 n1 c1, .bool s1, .bool o1] 154] En20 Hv10 fun ac21 wo22 En23 Hv24 => ?_
 refine f_e ?_
 refine d_end0 En23 (by kernel_rfl) ?_
 exact ⟨rfl, Hv24.pk [0, 1]⟩

theorem dwith_ft (w : World) (br bp : Nat) (a : Option Addr) (n c : Nat) (a1 : Option Addr) (n1 c1 : Nat) (s1 o1 : Bool) (hH : Heap w [.box br [.slice a n c, .bool false, .bool true] 154, .box bp [.slice a1 n1 c1, .bool s1, .bool o1] 154]) : Calls Try.prog 143 #[pt br, pt bp] w fun e w' => e = .returned (.tuple #[]) ∧ Ev w [.box br [.slice a n c, .bool false, .bool true] 154, .box bp [.slice a1 n1 c1, .bool s1, .bool o1] 154] w' [.box br [.slice a n c, .bool s1, .bool true] 154, .box bp [.slice a1 n1 c1, .bool s1, .bool o1] 154] := by
 refine d_0 [(0, pt br), (1, pt bp)] 30 Go.Proofs.Try.func143 Go.Proofs.Try.ntmps143 (hH) fun act0 En0 Hv0 => ?_
 refine wp_seq ?_
 refine region_from ?_
 refine d_k [0,1,4,7] [] 4 En0 fun ac1 En2 => ?_
 refine f_o ?_
 refine m_l 0 En2 Hv0 fun ac3 En4 => ?_
 refine d_k [0,1,4,9,12] [] 9 En4 fun ac5 En6 => ?_
 refine f_o ?_
 refine m_l 1 En6 Hv0 fun ac7 En8 => ?_
 refine d_k [0,1,14,16] [] 13 En8 fun ac9 En10 => ?_
 refine f_o ?_
 refine m_s 0 [.box br [.slice a n c, .bool s1, .bool true] 154, .box bp [.slice a1 n1 c1, .bool s1, .bool o1] 154] En10 Hv0 fun ac11 wo12 En13 Hv14 => ?_
 refine f_e ?_
 refine then_normal ?_
 refine region_from ?_
 refine d_k [0,1,17,20] [] 4 En13 fun ac15 En16 => ?_
 refine f_o ?_
 refine m_l 0 En16 Hv14 fun ac17 En18 => ?_
 refine d_k [0,1,27,29] [] 13 En18 fun ac19 En20 => ?_
 refine f_o ?_
 refine m_s 0 [.box br [.slice a n c, .bool s1, .bool true] 154, .box bp [.slice a1 n1 c1, .bool s1, .bool o1] 154] En20 Hv14 fun ac21 wo22 En23 Hv24 => ?_
 refine f_e ?_
 refine d_end0 En23 (by kernel_rfl) ?_
 exact ⟨rfl, Hv24.pk [0, 1]⟩

theorem dwith_ff (w : World) (br bp : Nat) (a : Option Addr) (n c : Nat) (a1 : Option Addr) (n1 c1 : Nat) (s1 o1 : Bool) (hH : Heap w [.box br [.slice a n c, .bool false, .bool false] 154, .box bp [.slice a1 n1 c1, .bool s1, .bool o1] 154]) : Calls Try.prog 143 #[pt br, pt bp] w fun e w' => e = .returned (.tuple #[]) ∧ Ev w [.box br [.slice a n c, .bool false, .bool false] 154, .box bp [.slice a1 n1 c1, .bool s1, .bool o1] 154] w' [.box br [.slice a n c, .bool s1, .bool o1] 154, .box bp [.slice a1 n1 c1, .bool s1, .bool o1] 154] := by
 refine d_0 [(0, pt br), (1, pt bp)] 30 Go.Proofs.Try.func143 Go.Proofs.Try.ntmps143 (hH) fun act0 En0 Hv0 => ?_
 refine wp_seq ?_
 refine region_from ?_
 refine d_k [0,1,4,7] [] 4 En0 fun ac1 En2 => ?_
 refine f_o ?_
 refine m_l 0 En2 Hv0 fun ac3 En4 => ?_
 refine d_k [0,1,4,9,12] [] 9 En4 fun ac5 En6 => ?_
 refine f_o ?_
 refine m_l 1 En6 Hv0 fun ac7 En8 => ?_
 refine d_k [0,1,14,16] [] 13 En8 fun ac9 En10 => ?_
 refine f_o ?_
 refine m_s 0 [.box br [.slice a n c, .bool s1, .bool false] 154, .box bp [.slice a1 n1 c1, .bool s1, .bool o1] 154] En10 Hv0 fun ac11 wo12 En13 Hv14 => ?_
 refine f_e ?_
 refine then_normal ?_
 refine region_from ?_
 refine d_k [0,1,17,20] [] 4 En13 fun ac15 En16 => ?_
 refine f_o ?_
 refine m_l 0 En16 Hv14 fun ac17 En18 => ?_
 refine d_k [0,1,17,22,25] [] 9 En18 fun ac19 En20 => ?_
 refine f_o ?_
 refine m_l 1 En20 Hv14 fun ac21 En22 => ?_
 refine d_k [0,1,27,29] [] 13 En22 fun ac23 En24 => ?_
 refine f_o ?_
 refine m_s 0 [.box br [.slice a n c, .bool s1, .bool o1] 154, .box bp [.slice a1 n1 c1, .bool s1, .bool o1] 154] En24 Hv14 fun ac25 wo26 En27 Hv28 => ?_
 refine f_e ?_
 refine d_end0 En27 (by kernel_rfl) ?_
 exact ⟨rfl, Hv28.pk [0, 1]⟩

theorem dwith_go (w : World) (br bp : Nat) (a : Option Addr) (n c : Nat) (s o : Bool) (a1 : Option Addr) (n1 c1 : Nat) (s1 o1 : Bool) (hH : Heap w [.box br [.slice a n c, .bool s, .bool o] 154, .box bp [.slice a1 n1 c1, .bool s1, .bool o1] 154]) : Calls Try.prog 143 #[pt br, pt bp] w fun e w' => e = .returned (.tuple #[]) ∧ Ev w [.box br [.slice a n c, .bool s, .bool o] 154, .box bp [.slice a1 n1 c1, .bool s1, .bool o1] 154] w' [.box br [.slice a n c, .bool (s || s1), .bool (o || o1)] 154, .box bp [.slice a1 n1 c1, .bool s1, .bool o1] 154] := by
  cases s
  · cases o
    · exact dwith_ff w br bp a n c a1 n1 c1 s1 o1 hH
    · exact dwith_ft w br bp a n c a1 n1 c1 s1 o1 hH
  · cases o
    · exact dwith_tf w br bp a n c a1 n1 c1 s1 o1 hH
    · exact dwith_tt w br bp a n c a1 n1 c1 s1 o1 hH

end Go.Proofs.Ytofecellbfhnjaa
