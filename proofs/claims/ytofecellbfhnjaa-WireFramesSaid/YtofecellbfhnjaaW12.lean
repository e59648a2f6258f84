/- Layer 17: WireFrames, walked. -/
import Derived.Test.YtofecellbfhnjaaW11
namespace Go.Proofs.Ytofecellbfhnjaa
open Go.Dbr
set_option maxRecDepth 100000
set_option maxHeartbeats 2000000
set_option linter.unusedVariables false
set_option linter.unusedSimpArgs false

theorem beN_3 {k : Nat} (h : k < 16777216) : beV (beN 3 k) = k := by
  have e : beN 3 k = [UInt8.ofNat (k / 256 ^ 2), UInt8.ofNat (k / 256 ^ 1), UInt8.ofNat (k / 256 ^ 0)] := rfl
  have e2 : ∀ a b c : UInt8, beV [a, b, c] = ((0 * 256 + a.toNat) * 256 + b.toNat) * 256 + c.toNat := fun _ _ _ => rfl
  rw [e, e2, UInt8.toNat_ofNat', UInt8.toNat_ofNat', UInt8.toNat_ofNat']
  omega
theorem unf_fr {t : UInt8} {b s : Bs} (h : b.length ≤ 16384) : unfN (frP t b ++ s) = (t, b, 4 + b.length, 0) := by
  have e : frP t b ++ s = t :: (beN 3 b.length ++ (b ++ s)) := by rw [(fr_yes h).1, wput]; simp
  have hl : (t :: (beN 3 b.length ++ (b ++ s))).length = 4 + b.length + s.length := by simp [beN_len]; omega
  have hd : List.drop 1 (t :: (beN 3 b.length ++ (b ++ s))) = beN 3 b.length ++ (b ++ s) := rfl
  have hn : n3 (t :: (beN 3 b.length ++ (b ++ s))) = b.length := by
    rw [n3, nbV, tkO, (tk3 (by omega)).1, hd, Bool.cond_false, List.take_left' (beN_len _ _), beN_3 (by omega)]
  have h4 : List.drop 4 (t :: (beN 3 b.length ++ (b ++ s))) = b ++ s := by
    show List.drop 3 (beN 3 b.length ++ (b ++ s)) = _
    exact List.drop_left' (beN_len _ _)
  rw [e, uf_4 (by omega) (by omega) (by omega), hn, h4, List.take_left' rfl]
  rfl
theorem fr_len {t : UInt8} {b : Bs} (h : b.length ≤ 16384) : (frP t b).length = 4 + b.length := by rw [(fr_yes h).1, wput_len]; simp
theorem nbeq_self (a : Bs) : (!(a == a)) = false := by rw [beq_self_eq_true]; rfl

theorem frames_walk (t : UInt8) (a_b : Option Addr) (c_b : Nat) (b : List UInt8) (a_s : Option Addr) (c_s : Nat) (s : List UInt8) (w : World) (i_b : InB w [] a_b c_b b) (s_b : List.length b ≤ 140737488351232) (i_s : InB w [] a_s c_s s) (s_s : List.length s ≤ 140737488351232) : Calls Try.prog 3 #[bv t, .slice a_b (List.length b) c_b, .slice a_s (List.length s) c_s] w fun e w' => e = .returned (.bool true) ∧ Ev w [] w' [] := by
 refine d_0 [(0, bv t), (1, .slice a_b (List.length b) c_b), (2, .slice a_s (List.length s) c_s)] 110 Go.Proofs.Try.func3 Go.Proofs.Try.ntmps3 (Heap.nil _) fun act0 En0 Hv0 => ?_
 refine wp_seq ?_
 refine d_r [0,1,2,6] [] En0 fun ac1 En2 => ?_
 refine then_normal ?_
 refine wp_seq ?_
 refine region_from ?_
 refine f_o ?_
 refine c_p En2 Hv0 (head_ok _) fun ac7 wo4 En8 Hv9 => ?_
 refine d_e [0,1,2,6,7] [] En8 fun ac10 En11 => ?_
 refine then_normal ?_
 refine wp_seq ?_
 refine region_from ?_
 refine d_k [0,1,2,6,7,22,23] [] 2 En11 fun ac12 En13 => ?_
 refine f_o ?_
 refine c_0 En13 Hv9 (frame_go _ t a_b c_b b ((i_b.ev Hv9).pick [] (by kernel_rfl))) ?_
 rintro _ wo17 ⟨fa14, fc15, rfl, he18⟩
 refine ⟨_, _, _, rfl, he18, rfl, fun ac20 En21 Hv22 => ?_⟩
 refine d_e [0,1,2,6,7,8] [] En21 fun ac23 En24 => ?_
 refine then_normal ?_
 refine wp_seq ?_
 refine region_from ?_
 refine d_k [0,1,2,6,7,8,26] [] 1 En24 fun ac25 En26 => ?_
 refine f_o ?_
 refine c_0 En26 Hv22 (unframe_go _ a_s (List.length s) c_s s (by first | rfl | (simp; done) | (simp; omega) | omega) ((i_s.ev Hv22).pick [] (by kernel_rfl))) ?_
 rintro _ wo30 ⟨ua27, uc28, rfl, he31⟩
 refine ⟨_, _, _, rfl, he31, rfl, fun ac33 En34 Hv35 => ?_⟩
 refine d_e [0,1,2,6,7,8,9,10,11,12] [] En34 fun ac36 En37 => ?_
 refine then_normal ?_
 refine wp_seq ?_
 refine region_from ?_
 refine d_k [0,1,2,6,7,8,9,10,11,12,33] [] 1 En37 fun ac38 En39 => ?_
 refine f_o ?_
 refine c_0 En39 Hv35 (dunframe_go _ a_s (List.length s) c_s s (by first | rfl | (simp; done) | (simp; omega) | omega) ((i_s.ev Hv35).pick [] (by kernel_rfl))) ?_
 rintro _ wo43 ⟨ua40, uc41, rfl, he44⟩
 refine ⟨_, _, _, rfl, he44, rfl, fun ac46 En47 Hv48 => ?_⟩
 refine d_e [0,1,2,6,7,8,9,10,11,12,13,14,15,16] [] En47 fun ac49 En50 => ?_
 refine then_normal ?_
 refine wp_seq ?_
 refine wp_seq ?_
 refine d_r [0,1,2,6,7,8,9,10,11,12,13,14,15,16,41] [] En50 fun ac51 En52 => ?_
 refine then_normal ?_
 refine c_d (((List.length b : Nat) : Int) ≤ (16384 : Int)) En52 (fun hc53 => ?_) (fun hc53 => ?_)
 ·
  refine wp_seq ?_
  have hle : List.length b ≤ 16384 := by omega
  have hFl := fr_len (t := t) hle
  have hU := unf_fr (t := t) (s := s) hle
  have hss := i_s.small
  refine region_from ?_
  refine f_o ?_
  refine op_lit (d := some 43) (t := 23) (T := 5) (m := 0) (parts := #[]) (xs := bys []) (sz := 1) En52 (by kernel_rfl) (by kernel_rfl) rfl (by decide) Hv48 ?_
  intro ac55 wo56 bk54 En57 Hv58
  refine d_k [0,1,2,6,7,8,9,10,11,12,13,14,15,16,43,44] [] 2 En57 fun ac59 En60 => ?_
  refine f_o ?_
  refine op_append (d := some 45) (t := 23) (tx := 23) (ty := 23) (k := 3) (p := 0) (m := List.length (frP t b)) (x := .slice fa14 (List.length (frP t b)) fc15) (bytes := 1) En60 (by kernel_rfl) Hv58 rfl rfl (Reads.src (size := 1) (tx := 23) (e' := 5) (by kernel_rfl) (Hv58.heap.reads (k := 2) rfl) (bys_len _) (bys_vnz Hv58.heap (k := 2) rfl) (bys_one _)) (by kernel_rfl) (z := .int .u8 0) (by kernel_rfl) rfl (by decide) (by omega) (by unfold maxLen; omega) ?_
  intro ac65 wo66 ao61 cp62 En67 Hv68 hnz _
  clear hnz
  rw [bys_nil_append] at Hv68
  have ehz63 : 0 + (List.length (frP t b)) = List.length (frP t b) := (by first | (simp; done) | (simp; omega) | omega)
  rw [ehz63] at En67
  refine d_k [0,1,2,6,7,8,9,10,11,12,13,14,15,16,45,46] [] 4 En67 fun ac69 En70 => ?_
  refine f_o ?_
  have hsm71 := i_s.small
  refine op_append (d := some 47) (t := 23) (tx := 23) (ty := 23) (k := 3) (p := List.length (frP t b)) (m := List.length s) (x := .slice a_s (List.length s) c_s) (bytes := 1) En70 (by kernel_rfl) Hv68 rfl (bys_len _) (Reads.src (size := 1) (tx := 23) (e' := 5) (by kernel_rfl) (i_s.ev Hv68).reads (bys_len _) i_s.nz (bys_one _)) (by kernel_rfl) (z := .int .u8 0) (by kernel_rfl) rfl (by decide) (by omega) (by unfold maxLen; omega) ?_
  intro ac76 wo77 ao72 cp73 En78 Hv79 hnz _
  clear hnz
  rw [← bys_append] at Hv79
  have ehz74 : (List.length (frP t b)) + (List.length s) = List.length ((frP t b) ++ s) := (by first | (simp; done) | (simp; omega) | omega)
  rw [ehz74] at En78
  refine f_o ?_
  refine c_0 En78 Hv79 (unframe_go _ ao72 (List.length ((frP t b) ++ s)) cp73 ((frP t b) ++ s) (by first | rfl | (simp; done) | (simp; omega) | omega) (bys_in Hv79.heap (k := 3) rfl [] (by kernel_rfl) rfl (by first | omega | (simp; done) | (simp; omega)))) ?_
  rintro _ wo83 ⟨ua80, uc81, rfl, he84⟩
  refine ⟨_, _, _, rfl, he84, rfl, fun ac86 En87 Hv88 => ?_⟩
  refine d_e [0,1,2,6,7,8,9,10,11,12,13,14,15,16,17,18,19,20] [] En87 fun ac89 En90 => ?_
  refine then_normal ?_
  refine wp_seq ?_
  refine region_from ?_
  refine d_k [0,1,2,6,7,8,9,10,11,12,13,14,15,16,19,20,56,57] [(2, g_b (show (((UInt8.toNat ((unfN ((frP t b) ++ s)).1) : Nat) : Int) != ((UInt8.toNat t : Nat) : Int)) = false from (by rw [hU]; exact bne_self_eq_false _)))] 5 En90 fun ac91 En92 => ?_
  refine f_o ?_
  refine op_str (d := some 58) (src := 23) (dst := 9) (e := 5) (ao := ua80) (cap := uc81) (p := List.length (unfN ((frP t b) ++ s)).2.1) (bs := (unfN ((frP t b) ++ s)).2.1) En92 (by kernel_rfl) (by first | (simp; done) | (simp; omega) | omega) (by kernel_rfl) (by kernel_rfl) (by kernel_rfl) (Hv88.heap.reads (k := 0) rfl) (fun e => by have h := (bys_vnz Hv88.heap (k := 0) rfl) e; first | omega | (rw [List.length_take] at h; omega) | (simp at h; omega)) ?_
  intro ac93 En94
  refine d_k [0,1,2,6,7,8,9,10,11,12,13,14,15,16,19,20,56,58,59] [] 7 En94 fun ac95 En96 => ?_
  refine f_o ?_
  refine op_str (d := some 60) (src := 23) (dst := 9) (e := 5) (ao := a_b) (cap := c_b) (p := List.length b) (bs := b) En96 (by kernel_rfl) rfl (by kernel_rfl) (by kernel_rfl) (by kernel_rfl) (i_b.ev Hv88).reads i_b.nz ?_
  intro ac97 En98
  refine d_e [0,1,2,6,7,8,9,10,11,12,13,14,15,16,72] [(8, g_v (show (.bool (!(ByteArray.toList (bstr ((unfN ((frP t b) ++ s)).2.1)) == ByteArray.toList (bstr b))) : Value) = .bool false by rw [Go.Dbr.bstr_eq ((unfN ((frP t b) ++ s)).2.1) b, show (!(((unfN ((frP t b) ++ s)).2.1) == b)) = false from (by rw [hU]; exact nbeq_self _)] <;> rfl)), (14, g_b (show ((((unfN ((frP t b) ++ s)).2.2.1 : Nat) : Int) != ((List.length (frP t b) : Nat) : Int)) = false from (by rw [hU, hFl]; exact bne_self_eq_false _))), (18, g_b (show ((unfN ((frP t b) ++ s)).2.2.2 != (0 : Int)) = false from (by rw [hU]; rfl)))] En98 fun ac99 En100 => ?_
  refine then_normal ?_
  refine c_f En100 ?_
  refine wp_skip ?_
  refine then_normal ?_
  refine wp_seq ?_
  refine r_c (fun ac wo => Env ac 110 [(0, bv t), (1, .slice a_b (List.length b) c_b), (2, .slice a_s (List.length s) c_s), (6, .bool true), (8, .slice fa14 (List.length (frP t b)) fc15)] ∧ Ev w [] wo [.vec fa14 fc15 1 (bys (frP t b)) 5]) ?_ ?_
  ·
   refine h_s (fun wv => Ev w [] wv [.vec ua40 uc41 1 (bys ((unfN s).2.1)) 5, .vec ua27 uc28 1 (bys ((unfN s).2.1)) 5, .vec fa14 fc15 1 (bys (frP t b)) 5]) [] 38 ?_
   have wo101 := Hv88.trans (Ev.drew Hv88.heap)
   refine q_s [0,1,2] [] 35 En100 (wo101.pk [1, 2, 3]) fun ac241 En242 => ?_
   refine q_r 3 (s := convert 23 9 (.slice fa14 (List.length (frP t b)) fc15)) (v := .string (bstr (frP t b))) En242 (fun w hS => run_str2 (e := 5) (bs := frP t b) rfl (by kernel_rfl) (by kernel_rfl) (by kernel_rfl) (hS.heap.reads (k := 2) rfl) (bys_vnz hS.heap (k := 2) rfl)) (wo101.pk [1, 2, 3]) fun ac243 En244 => ?_
   refine q_s [4,5] [] 32 En244 (wo101.pk [1, 2, 3]) fun ac245 En246 => ?_
   refine q_t 6 ?_
   refine c_0 En246 wo101 (dframe_go _ t a_b c_b b ((i_b.ev wo101).pick [] (by kernel_rfl))) ?_
   rintro _ wo250 ⟨fa247, fc248, rfl, he251⟩
   refine ⟨_, _, _, rfl, he251, rfl, fun ac253 En254 Hv255 => ?_⟩
   refine ⟨fun _ => Hv255.pk [2, 3, 4], ?_⟩
   refine q_t 7 ?_
   refine op_str (d := some 80) (src := 23) (dst := 9) (e := 5) (ao := fa247) (cap := fc248) (p := List.length (frD t b)) (bs := frD t b) En254 (by kernel_rfl) rfl (by kernel_rfl) (by kernel_rfl) (by kernel_rfl) (Hv255.heap.reads (k := 0) rfl) (bys_vnz Hv255.heap (k := 0) rfl) ?_
   intro ac256 En257
   refine ⟨fun _ => Hv255.pk [2, 3, 4], ?_⟩
   refine q_s [8,9,10,11,12,13,14,15,16] [(8, g_v (show (.bool (ByteArray.toList (bstr (frP t b)) == ByteArray.toList (bstr (frD t b))) : Value) = .bool true by rw [Go.Dbr.bstr_eq (frP t b) (frD t b), show ((frP t b) == (frD t b)) = true from (by rw [fr_eq]; exact beq_self_eq_true _)] <;> rfl)), (13, g_b (show (((UInt8.toNat ((unfN s).1) : Nat) : Int) == ((UInt8.toNat ((unfN s).1) : Nat) : Int)) = true from (beq_self_eq_true _)))] 21 En257 (Hv255.pk [2, 3, 4]) fun ac258 En259 => ?_
   refine q_r 17 (s := convert 23 9 (.slice ua27 (List.length (unfN s).2.1) uc28)) (v := .string (bstr ((unfN s).2.1))) En259 (fun w hS => run_str2 (e := 5) (bs := (unfN s).2.1) (by first | (simp; done) | (simp; omega) | omega) (by kernel_rfl) (by kernel_rfl) (by kernel_rfl) (hS.heap.reads (k := 1) rfl) (fun e => by have h := (bys_vnz hS.heap (k := 1) rfl) e; first | omega | (rw [List.length_take] at h; omega) | (simp at h; omega))) (Hv255.pk [2, 3, 4]) fun ac260 En261 => ?_
   refine q_s [18] [] 19 En261 (Hv255.pk [2, 3, 4]) fun ac262 En263 => ?_
   refine q_r 19 (s := convert 23 9 (.slice ua40 (List.length (unfN s).2.1) uc41)) (v := .string (bstr ((unfN s).2.1))) En263 (fun w hS => run_str2 (e := 5) (bs := (unfN s).2.1) (by first | (simp; done) | (simp; omega) | omega) (by kernel_rfl) (by kernel_rfl) (by kernel_rfl) (hS.heap.reads (k := 0) rfl) (fun e => by have h := (bys_vnz hS.heap (k := 0) rfl) e; first | omega | (rw [List.length_take] at h; omega) | (simp at h; omega))) (Hv255.pk [2, 3, 4]) fun ac264 En265 => ?_
   refine q_s [20,21,22,23,24,25,26,27,28,29,30,31,32] [(20, g_v (show (.bool (ByteArray.toList (bstr ((unfN s).2.1)) == ByteArray.toList (bstr ((unfN s).2.1))) : Value) = .bool true by rw [Go.Dbr.bstr_eq ((unfN s).2.1) ((unfN s).2.1), show (((unfN s).2.1) == ((unfN s).2.1)) = true from (beq_self_eq_true _)] <;> rfl)), (25, g_b (show ((((unfN s).2.2.1 : Nat) : Int) == (((unfN s).2.2.1 : Nat) : Int)) = true from (beq_self_eq_true _))), (30, g_b (show ((unfN s).2.2.2 == (unfN s).2.2.2) = true from (beq_self_eq_true _)))] 5 En265 (Hv255.pk [2, 3, 4]) fun ac266 En267 => ?_
   refine q_t 33 ?_
   refine c_p En267 Hv255 (retry_go _) fun ac272 wo269 En273 Hv274 => ?_
   refine ⟨fun _ => Hv274.pk [2, 3, 4], ?_⟩
   refine q_t 34 ?_
   refine c_p En273 Hv274 (dretry_go _) fun ac279 wo276 En280 Hv281 => ?_
   refine ⟨fun _ => Hv281.pk [2, 3, 4], ?_⟩
   refine q_f 35 (s := eqOp .eql 29 (.tmp 106) (.tmp 107) (.agg (List.toArray (bys retryL))) (.agg (List.toArray (bys retryL)))) (v := .bool true) En280 (fun _ => Go.Dbr.run_is (fun w => Go.Dbr.bys_eqop (a := (.tmp 106)) (b := (.tmp 107)) (e := 5) (m := 32) (by kernel_rfl) (by kernel_rfl) (by kernel_rfl) (by kernel_rfl) (by kernel_rfl) (rfl : List.length retryL = 32) (rfl : List.length retryL = 32) w) (beq_self_eq_true _) _) (fun _ => Hv281.pk [2, 3, 4]) fun ac282 En283 => ?_
   refine q_s [36,37] [] 0 En283 (Hv281.pk [2, 3, 4]) fun ac284 En285 => ?_
   exact h_e ⟨En285.sb, Hv281.pk [4]⟩
  rintro ac286 wo287 ⟨En288, Hv289⟩
  refine then_normal ?_
  refine wp_ret ?_
  refine d_ret1 (t := 6) (v := .bool true) En288 (by kernel_rfl) (by kernel_rfl) ?_
  exact ⟨rfl, Hv289.pk []⟩
 ·
  refine wp_skip ?_
  refine then_normal ?_
  refine wp_seq ?_
  refine r_c (fun ac wo => Env ac 110 [(0, bv t), (1, .slice a_b (List.length b) c_b), (2, .slice a_s (List.length s) c_s), (6, .bool true), (8, .slice fa14 (List.length (frP t b)) fc15)] ∧ Ev w [] wo [.vec fa14 fc15 1 (bys (frP t b)) 5]) ?_ ?_
  ·
   refine h_s (fun wv => Ev w [] wv [.vec ua40 uc41 1 (bys ((unfN s).2.1)) 5, .vec ua27 uc28 1 (bys ((unfN s).2.1)) 5, .vec fa14 fc15 1 (bys (frP t b)) 5]) [] 38 ?_
   have wo290 := Hv48.trans (Ev.drew Hv48.heap)
   refine q_s [0,1,2] [] 35 En52 (wo290.pk [0, 1, 2]) fun ac430 En431 => ?_
   refine q_r 3 (s := convert 23 9 (.slice fa14 (List.length (frP t b)) fc15)) (v := .string (bstr (frP t b))) En431 (fun w hS => run_str2 (e := 5) (bs := frP t b) rfl (by kernel_rfl) (by kernel_rfl) (by kernel_rfl) (hS.heap.reads (k := 2) rfl) (bys_vnz hS.heap (k := 2) rfl)) (wo290.pk [0, 1, 2]) fun ac432 En433 => ?_
   refine q_s [4,5] [] 32 En433 (wo290.pk [0, 1, 2]) fun ac434 En435 => ?_
   refine q_t 6 ?_
   refine c_0 En435 wo290 (dframe_go _ t a_b c_b b ((i_b.ev wo290).pick [] (by kernel_rfl))) ?_
   rintro _ wo439 ⟨fa436, fc437, rfl, he440⟩
   refine ⟨_, _, _, rfl, he440, rfl, fun ac442 En443 Hv444 => ?_⟩
   refine ⟨fun _ => Hv444.pk [1, 2, 3], ?_⟩
   refine q_t 7 ?_
   refine op_str (d := some 80) (src := 23) (dst := 9) (e := 5) (ao := fa436) (cap := fc437) (p := List.length (frD t b)) (bs := frD t b) En443 (by kernel_rfl) rfl (by kernel_rfl) (by kernel_rfl) (by kernel_rfl) (Hv444.heap.reads (k := 0) rfl) (bys_vnz Hv444.heap (k := 0) rfl) ?_
   intro ac445 En446
   refine ⟨fun _ => Hv444.pk [1, 2, 3], ?_⟩
   refine q_s [8,9,10,11,12,13,14,15,16] [(8, g_v (show (.bool (ByteArray.toList (bstr (frP t b)) == ByteArray.toList (bstr (frD t b))) : Value) = .bool true by rw [Go.Dbr.bstr_eq (frP t b) (frD t b), show ((frP t b) == (frD t b)) = true from (by rw [fr_eq]; exact beq_self_eq_true _)] <;> rfl)), (13, g_b (show (((UInt8.toNat ((unfN s).1) : Nat) : Int) == ((UInt8.toNat ((unfN s).1) : Nat) : Int)) = true from (beq_self_eq_true _)))] 21 En446 (Hv444.pk [1, 2, 3]) fun ac447 En448 => ?_
   refine q_r 17 (s := convert 23 9 (.slice ua27 (List.length (unfN s).2.1) uc28)) (v := .string (bstr ((unfN s).2.1))) En448 (fun w hS => run_str2 (e := 5) (bs := (unfN s).2.1) (by first | (simp; done) | (simp; omega) | omega) (by kernel_rfl) (by kernel_rfl) (by kernel_rfl) (hS.heap.reads (k := 1) rfl) (fun e => by have h := (bys_vnz hS.heap (k := 1) rfl) e; first | omega | (rw [List.length_take] at h; omega) | (simp at h; omega))) (Hv444.pk [1, 2, 3]) fun ac449 En450 => ?_
   refine q_s [18] [] 19 En450 (Hv444.pk [1, 2, 3]) fun ac451 En452 => ?_
   refine q_r 19 (s := convert 23 9 (.slice ua40 (List.length (unfN s).2.1) uc41)) (v := .string (bstr ((unfN s).2.1))) En452 (fun w hS => run_str2 (e := 5) (bs := (unfN s).2.1) (by first | (simp; done) | (simp; omega) | omega) (by kernel_rfl) (by kernel_rfl) (by kernel_rfl) (hS.heap.reads (k := 0) rfl) (fun e => by have h := (bys_vnz hS.heap (k := 0) rfl) e; first | omega | (rw [List.length_take] at h; omega) | (simp at h; omega))) (Hv444.pk [1, 2, 3]) fun ac453 En454 => ?_
   refine q_s [20,21,22,23,24,25,26,27,28,29,30,31,32] [(20, g_v (show (.bool (ByteArray.toList (bstr ((unfN s).2.1)) == ByteArray.toList (bstr ((unfN s).2.1))) : Value) = .bool true by rw [Go.Dbr.bstr_eq ((unfN s).2.1) ((unfN s).2.1), show (((unfN s).2.1) == ((unfN s).2.1)) = true from (beq_self_eq_true _)] <;> rfl)), (25, g_b (show ((((unfN s).2.2.1 : Nat) : Int) == (((unfN s).2.2.1 : Nat) : Int)) = true from (beq_self_eq_true _))), (30, g_b (show ((unfN s).2.2.2 == (unfN s).2.2.2) = true from (beq_self_eq_true _)))] 5 En454 (Hv444.pk [1, 2, 3]) fun ac455 En456 => ?_
   refine q_t 33 ?_
   refine c_p En456 Hv444 (retry_go _) fun ac461 wo458 En462 Hv463 => ?_
   refine ⟨fun _ => Hv463.pk [1, 2, 3], ?_⟩
   refine q_t 34 ?_
   refine c_p En462 Hv463 (dretry_go _) fun ac468 wo465 En469 Hv470 => ?_
   refine ⟨fun _ => Hv470.pk [1, 2, 3], ?_⟩
   refine q_f 35 (s := eqOp .eql 29 (.tmp 106) (.tmp 107) (.agg (List.toArray (bys retryL))) (.agg (List.toArray (bys retryL)))) (v := .bool true) En469 (fun _ => Go.Dbr.run_is (fun w => Go.Dbr.bys_eqop (a := (.tmp 106)) (b := (.tmp 107)) (e := 5) (m := 32) (by kernel_rfl) (by kernel_rfl) (by kernel_rfl) (by kernel_rfl) (by kernel_rfl) (rfl : List.length retryL = 32) (rfl : List.length retryL = 32) w) (beq_self_eq_true _) _) (fun _ => Hv470.pk [1, 2, 3]) fun ac471 En472 => ?_
   refine q_s [36,37] [] 0 En472 (Hv470.pk [1, 2, 3]) fun ac473 En474 => ?_
   exact h_e ⟨En474.sb, Hv470.pk [3]⟩
  rintro ac475 wo476 ⟨En477, Hv478⟩
  refine then_normal ?_
  refine wp_ret ?_
  refine d_ret1 (t := 6) (v := .bool true) En477 (by kernel_rfl) (by kernel_rfl) ?_
  exact ⟨rfl, Hv478.pk []⟩

end Go.Proofs.Ytofecellbfhnjaa
