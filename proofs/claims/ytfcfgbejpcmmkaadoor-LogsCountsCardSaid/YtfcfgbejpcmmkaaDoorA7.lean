/- Layer 3: a line is written, by the document. -/
import Derived.Test.YtfcfgbejpcmmkaaDoorA6
namespace Go.Proofs.YtfcfgbejpcmmkaaDoor
open Go.Dbr
set_option maxRecDepth 100000
set_option maxHeartbeats 2000000
set_option linter.unusedVariables false
set_option linter.unusedSimpArgs false

def sayD (x : RPair) : Bs := saysT x x.2.2.2.1
theorem doc_go {a0 acc : Bs} {xs : List RPair} {i : Nat} {x : RPair} {b : Bs} (h : docE a0 xs = docE acc (xs.drop i)) (hx : xs[i]? = some x) (hb : b = acc ++ saysT x x.2.2.2.1) (g : ¬ (x.2.1 = false ∧ 1024 < x.2.2.2.1.length)) : docE a0 xs = docE b (xs.drop (i + 1)) := by
  obtain ⟨hl, hg⟩ := List.getElem?_eq_some_iff.1 hx
  subst hb
  rw [h, List.drop_eq_getElem_cons hl, hg, docE, if_neg g]
theorem doc_bad {a0 acc : Bs} {xs : List RPair} {i : Nat} {x : RPair} (h : docE a0 xs = docE acc (xs.drop i)) (hx : xs[i]? = some x) (g : x.2.1 = false ∧ 1024 < x.2.2.2.1.length) : docE a0 xs = ([], 32) := by
  obtain ⟨hl, hg⟩ := List.getElem?_eq_some_iff.1 hx
  rw [h, List.drop_eq_getElem_cons hl, hg, docE, if_pos g]
theorem encd_ok {t : UInt64} {ev : Bs} {xs : List RPair} (h1 : wordB ev = true) (h2 : xs.length ≤ 16) (h3 : keysF [] xs = true) : encL t ev xs = docE (headL t ev) xs := by
  rw [encL, if_neg (by rw [h1]; decide), if_neg (by omega), if_neg (by rw [h3]; decide)]
theorem sd_1 {x : RPair} {acc k t : Bs} {n : UInt64} (hk : x.1 = k) (hn : x.2.2.1 = n) (h : x.2.1 = true) : acc ++ [32] ++ k ++ [61] ++ decL (UInt64.toNat n) = acc ++ saysT x t := by subst hk hn; rw [saysT, if_pos h]; simp
theorem sd_2 {x : RPair} {acc k t : Bs} (hk : x.1 = k) (h : ¬ x.2.1 = true) : acc ++ [32] ++ k ++ [61] ++ quoL t = acc ++ saysT x t := by subst hk; rw [saysT, if_neg h]; simp
theorem le_of_not {b : Bool} {p : Prop} (h : ¬ b = true) (g : p) : b = false ∧ p := ⟨Bool.eq_false_iff.2 h, g⟩
theorem no_1 {b : Bool} {p : Prop} (h : b = true) : ¬ (b = false ∧ p) := fun g => by rw [h] at g; cases g.1

theorem denc_go (w : World) (t : UInt64) (ev : Bs) (hev : List.length ev ≤ 140737488351232) (al : Option Addr) (cl : Nat) (xs : List RPair) (il : InS fPair 48 (fun y : RPair => ((List.length y.1 ≤ 140737488351232) ∧ (True ∧ (True ∧ ((List.length y.2.2.2.1 ≤ 140737488351232) ∧ (True)))))) w [] al cl xs) (gt : InT w []) : Calls Tryd.prog 10 #[.agg #[uv64 t, .string (bstr ev), .slice al (List.length xs) cl]] w fun e w' => e = .returned (.tuple #[.string (bstr (encL t ev xs).1), .int .i64 (encL t ev xs).2]) ∧ Ev w [] w' [] := by
 refine d_0 [(0, .agg #[uv64 t, .string (bstr ev), .slice al (List.length xs) cl])] 85 Go.Proofs.Tryd.func10 Go.Proofs.Tryd.ntmps10 (Heap.nil _) fun act0 En0 Hv0 => ?_
 refine wp_seq ?_
 refine region_from ?_
 refine f_o ?_
 refine m_m 25 [uv64 t, .string (bstr ev), .slice al (List.length xs) cl] En0 Hv0 fun ac2 wo3 bk1 En4 Hv5 => ?_
 refine d_e [1,2,3] [] En4 fun ac6 En7 => ?_
 refine then_normal ?_
 refine wp_seq ?_
 refine region_from ?_
 refine d_k [1,2,3,10] [] 1 En7 fun ac8 En9 => ?_
 refine f_o ?_
 refine m_l 0 En9 Hv5 fun ac10 En11 => ?_
 refine f_o ?_
 refine c_p En11 Hv5 (dword_go _ ev (by first | assumption | omega)) fun ac16 wo13 En17 Hv18 => ?_
 refine d_e [1,2,3,4] [] En17 fun ac19 En20 => ?_
 refine then_normal ?_
 refine wp_seq ?_
 refine wp_seq ?_
 refine d_r [1,2,3,14] [] En20 fun ac21 En22 => ?_
 refine then_normal ?_
 refine cond_at En22 (t := !(wordB ev)) (by kernel_rfl) (fun hc23 => ?_) (fun hc23 => ?_)
 ·
  replace hc23 : ¬ (wordB ev = true) := by simpa using hc23
  refine wp_seq ?_
  refine d_r [1,2,3] [] En22 fun ac24 En25 => ?_
  refine then_normal ?_
  refine wp_ret ?_
  refine then_ret ?_
  refine d_ret2 (t := 2) (u := 3) (v := .string (bstr [])) (x := .int .i64 31) En25 (by kernel_rfl) (by kernel_rfl) (by kernel_rfl) ?_
  rw [show encL t ev xs = ([], 31) from enc_31 (by assumption)]
  exact ⟨rfl, Hv18.pick [] (by kernel_rfl) (by decide)⟩
 ·
  replace hc23 : wordB ev = true := by simpa using hc23
  refine wp_skip ?_
  refine then_normal ?_
  refine wp_seq ?_
  refine wp_seq ?_
  refine region_from ?_
  refine d_k [1,2,3,15] [] 1 En22 fun ac26 En27 => ?_
  refine f_o ?_
  refine m_l 0 En27 Hv18 fun ac28 En29 => ?_
  refine d_e [1,2,3,18] [] En29 fun ac30 En31 => ?_
  refine then_normal ?_
  refine c_d (((List.length xs : Nat) : Int) > (16 : Int)) En31 (fun hc32 => ?_) (fun hc32 => ?_)
  ·
   refine wp_seq ?_
   refine d_r [1,2,3] [] En31 fun ac33 En34 => ?_
   refine then_normal ?_
   refine wp_ret ?_
   refine then_ret ?_
   refine d_ret2 (t := 2) (u := 3) (v := .string (bstr [])) (x := .int .i64 2) En34 (by kernel_rfl) (by kernel_rfl) (by kernel_rfl) ?_
   rw [show encL t ev xs = ([], 2) from enc_2 (by assumption) (by omega)]
   exact ⟨rfl, Hv18.pick [] (by kernel_rfl) (by decide)⟩
  ·
   refine wp_skip ?_
   refine then_normal ?_
   refine wp_seq ?_
   refine wp_seq ?_
   refine d_r [1,2,3,5] [] En31 fun ac35 En36 => ?_
   refine then_normal ?_
   refine wp_block ?_
   refine loop_m (fun ms37 ac wo => ∃ (i : Nat), ms37 = (List.length xs - i : Nat) ∧ Env ac 85 [(1, pt bk1), (5, ni i)] ∧ Ev w [] wo [.box bk1 [uv64 t, .string (bstr ev), .slice al (List.length xs) cl] 25] ∧ (i ≤ List.length xs) ∧ (keysF [] xs = keysF (List.take i xs) (List.drop i xs))) ⟨_, 0, rfl, En36.sub (by kernel_rfl), Hv18.pick [0] (by kernel_rfl) (by decide), (Nat.zero_le _), (by simp)⟩ ?_
   rintro mm43 ac39 wo40 ⟨i, rfl, En41, Hv42, hil, hks⟩
   refine wp_seq ?_
   refine wp_seq ?_
   have hzl := il.small
   refine region_from ?_
   refine d_k [1,5,19,20] [] 2 En41 fun ac44 En45 => ?_
   refine f_o ?_
   refine m_l 0 En45 Hv42 fun ac46 En47 => ?_
   refine d_e [1,5,23] [] En47 fun ac48 En49 => ?_
   refine then_normal ?_
   refine c_d (((i : Nat) : Int) < ((List.length xs : Nat) : Int)) En49 (fun hc50 => ?_) (fun hc50 => ?_)
   ·
    refine wp_skip ?_
    refine then_normal ?_
    refine wp_seq ?_
    refine wp_block ?_
    refine wp_seq ?_
    have hcl := il.cap
    have hb51 : i < List.length xs := by omega
    obtain ⟨⟨x53a, x53b, x53c, x53d, _⟩, hx52⟩ : ∃ x, (xs)[i]? = some x := ⟨_, List.getElem?_eq_getElem hb51⟩
    obtain ⟨s_x53a, _, _, s_x53d, _⟩ := il.each _ (List.mem_of_getElem? hx52)
    replace s_x53a : (List.length x53a ≤ 140737488351232) := s_x53a
    replace s_x53d : (List.length x53d ≤ 140737488351232) := s_x53d
    refine r_c (fun ac wo => Env ac 85 [(1, pt bk1), (5, ni i), (6, .bool (keyB x53a (List.take i xs)))] ∧ Ev w [] wo [.box bk1 [uv64 t, .string (bstr ev), .slice al (List.length xs) cl] 25]) ?_ ?_
    ·
     refine h_s (fun wv => Ev w [] wv [.box bk1 [uv64 t, .string (bstr ev), .slice al (List.length xs) cl] 25]) [] 12 ?_
     have wo54 := Hv42.trans (Ev.drew Hv42.heap)
     refine q_s [0] [] 11 En49 (wo54.pick [0] (by kernel_rfl) (by decide)) fun ac178 En179 => ?_
     refine q_l 0 1 En179 (wo54.pick [0] (by kernel_rfl) (by decide)) fun ac180 En181 => ?_
     have hb184 : i < List.length xs := (by omega)
     obtain ⟨adr182, had183⟩ := some_of il.nz hb184
     refine q_s [2] [] 9 En181 (wo54.pick [0] (by kernel_rfl) (by decide)) fun ac185 En186 => ?_
     refine q_f 3 (s := Instr.indexAt 23 (.slice al (List.length xs) cl) (ni i)) (v := .pointer (some (Addr.add adr182 (i * 4)))) En186 (fun _ => Go.Dbr.run_indexsl (e := 35) (sz := 4) (j := i) (jo := i * 4) had183 (by kernel_rfl) (by kernel_rfl) (by omega) hb184 rfl _) (fun _ => wo54.pick [0] (by kernel_rfl) (by decide)) fun ac187 En188 => ?_
     refine q_s [4] [] 7 En188 (wo54.pick [0] (by kernel_rfl) (by decide)) fun ac189 En190 => ?_
     refine q_r 5 (s := Instr.loadAt 9 (.pointer (some (Addr.add adr182 (i * 4))))) (v := .string (bstr x53a)) En190 (fun w hS => run_loadel (ad := adr182) (o := i * 4) rfl (il.ro.ev hS).reads had183 ((flat_get (sz := 4) (j := 0) (fun _ _ => rfl) hx52 (by decide)).trans rfl) (by kernel_rfl)) (wo54.pick [0] (by kernel_rfl) (by decide)) fun ac191 En192 => ?_
     refine q_s [6] [] 5 En192 (wo54.pick [0] (by kernel_rfl) (by decide)) fun ac193 En194 => ?_
     refine q_l 0 7 En194 (wo54.pick [0] (by kernel_rfl) (by decide)) fun ac195 En196 => ?_
     refine q_s [8] [] 3 En196 (wo54.pick [0] (by kernel_rfl) (by decide)) fun ac197 En198 => ?_
     refine q_t 9 ?_
     refine op_slice0 (d := some 35) (t := 23) (e := 35) (sz := 4) (len := List.length xs) (cap := cl) (hi := i) (ao := al) (lov := none) (hiv := (some (ni i))) En198 (by kernel_rfl) (by kernel_rfl) (by kernel_rfl) (by omega) (.inl ⟨rfl, rfl⟩) (.inr ⟨.i64, rfl⟩) ?_
     intro ac199 En200
     refine ⟨fun _ => wo54.pick [0] (by kernel_rfl) (by decide), ?_⟩
     refine q_t 10 ?_
     refine c_p En200 wo54 (maykey_go _ x53a (by first | assumption | omega) i al cl (List.take i xs) ((il.go wo54 [] (by kernel_rfl) (fun _ h => ⟨h.1, h.2.1, h.2.2.1, h.2.2.2.1, h.2.2.2.2⟩)).take i) (by first | rfl | (rw [List.length_take]; omega))) fun ac205 wo202 En206 Hv207 => ?_
     refine ⟨fun _ => Hv207.pick [0] (by kernel_rfl) (by decide), ?_⟩
     refine q_s [11] [] 0 En206 (Hv207.pick [0] (by kernel_rfl) (by decide)) fun ac208 En209 => ?_
     exact h_e ⟨En209.sub (by kernel_rfl), Hv207.pick [0] (by kernel_rfl) (by decide)⟩
    rintro ac210 wo211 ⟨En212, Hv213⟩
    refine then_normal ?_
    refine wp_seq ?_
    refine d_r [1,5,38] [] En212 fun ac214 En215 => ?_
    refine then_normal ?_
    refine cond_at En215 (t := !(keyB x53a (List.take i xs))) (by kernel_rfl) (fun hc216 => ?_) (fun hc216 => ?_)
    ·
     replace hc216 : ¬ (keyB x53a (List.take i xs) = true) := by simpa using hc216
     refine wp_seq ?_
     refine d_r [1,2,3,5] [] En215 fun ac217 En218 => ?_
     refine then_normal ?_
     refine wp_ret ?_
     refine block_ret ?_
     refine then_ret ?_
     refine then_ret ?_
     refine block_ret ?_
     refine then_ret ?_
     refine d_ret2 (t := 2) (u := 3) (v := .string (bstr [])) (x := .int .i64 31) En218 (by kernel_rfl) (by kernel_rfl) (by kernel_rfl) ?_
     rw [show encL t ev xs = ([], 31) from enc_k (by assumption) (by omega) (keys_bad hks hx52 (by assumption))]
     exact ⟨rfl, Hv213.pick [] (by kernel_rfl) (by decide)⟩
    ·
     replace hc216 : keyB x53a (List.take i xs) = true := by simpa using hc216
     refine wp_skip ?_
     refine block_normal ?_
     refine then_normal ?_
     refine d_r [1,5] [(1, g_n (w_a i 1))] En215 fun ac219 En220 => ?_
     refine then_normal ?_
     refine ⟨_, ⟨i + 1, rfl, En220.sub (by kernel_rfl), Hv213.pick [0] (by kernel_rfl) (by decide), (by omega), (keys_go hks hx52 (by assumption))⟩, ?_⟩
     omega
   ·
    refine wp_exit ?_
    refine then_exit ?_
    refine then_exit ?_
    refine block_exit ?_
    refine then_normal ?_
    refine wp_seq ?_
    have hK := keys_end hks (by omega)
    have hwe : wordB ev = true := by assumption
    have hwl := word_len hwe
    have hdt := dec_len _ (UInt64.toNat_lt t)
    refine r_c (fun ac wo => Env ac 85 [(1, pt bk1), (5, ni i), (7, .string (bstr ((([116, 61] ++ (decL (UInt64.toNat t))) ++ [32, 101, 118, 61]) ++ ev)))] ∧ Ev w [] wo [.box bk1 [uv64 t, .string (bstr ev), .slice al (List.length xs) cl] 25]) ?_ ?_
    ·
     refine h_s (fun wv => Ev w [] wv [.box bk1 [uv64 t, .string (bstr ev), .slice al (List.length xs) cl] 25]) [] 9 ?_
     have wo221 := Hv42.trans (Ev.drew Hv42.heap)
     refine q_s [0] [] 8 En49 (wo221.pick [0] (by kernel_rfl) (by decide)) fun ac302 En303 => ?_
     refine q_l 0 1 En303 (wo221.pick [0] (by kernel_rfl) (by decide)) fun ac304 En305 => ?_
     refine q_s [5] [] 6 En305 (wo221.pick [0] (by kernel_rfl) (by decide)) fun ac306 En307 => ?_
     refine q_l 0 6 En307 (wo221.pick [0] (by kernel_rfl) (by decide)) fun ac308 En309 => ?_
     refine q_t 2 ?_
     refine c_p En309 wo221 (fu_go _ t ((gt.ev wo221).nil)) fun ac314 wo311 En315 Hv316 => ?_
     refine ⟨fun _ => Hv316.pick [0] (by kernel_rfl) (by decide), ?_⟩
     refine q_f 3 (s := Op.stringOp .add (bstr [116, 61]) (bstr (decL (UInt64.toNat t)))) (v := .string (bstr ([116, 61] ++ (decL (UInt64.toNat t))))) En315 (fun _ => Go.Dbr.run_add_str [116, 61] (decL (UInt64.toNat t)) (by simp only [List.length_append, List.length_cons, List.length_nil]; omega) _) (fun _ => Hv316.pick [0] (by kernel_rfl) (by decide)) fun ac317 En318 => ?_
     refine q_f 4 (s := Op.stringOp .add (bstr ([116, 61] ++ (decL (UInt64.toNat t)))) (bstr [32, 101, 118, 61])) (v := .string (bstr (([116, 61] ++ (decL (UInt64.toNat t))) ++ [32, 101, 118, 61]))) En318 (fun _ => Go.Dbr.run_add_str ([116, 61] ++ (decL (UInt64.toNat t))) [32, 101, 118, 61] (by simp only [List.length_append, List.length_cons, List.length_nil]; omega) _) (fun _ => Hv316.pick [0] (by kernel_rfl) (by decide)) fun ac319 En320 => ?_
     refine q_f 7 (s := Op.stringOp .add (bstr (([116, 61] ++ (decL (UInt64.toNat t))) ++ [32, 101, 118, 61])) (bstr ev)) (v := .string (bstr ((([116, 61] ++ (decL (UInt64.toNat t))) ++ [32, 101, 118, 61]) ++ ev))) En320 (fun _ => Go.Dbr.run_add_str (([116, 61] ++ (decL (UInt64.toNat t))) ++ [32, 101, 118, 61]) ev (by simp only [List.length_append, List.length_cons, List.length_nil]; omega) _) (fun _ => Hv316.pick [0] (by kernel_rfl) (by decide)) fun ac321 En322 => ?_
     refine q_s [8] [] 0 En322 (Hv316.pick [0] (by kernel_rfl) (by decide)) fun ac323 En324 => ?_
     exact h_e ⟨En324.sub (by kernel_rfl), Hv316.pick [0] (by kernel_rfl) (by decide)⟩
    rintro ac325 wo326 ⟨En327, Hv328⟩
    refine then_normal ?_
    refine wp_seq ?_
    refine wp_seq ?_
    refine d_r [1,5,7,8] [] En327 fun ac329 En330 => ?_
    refine then_normal ?_
    refine wp_block ?_
    refine loop_m (fun ms331 ac wo => ∃ (j : Nat) (m : Bs), ms331 = (List.length xs - j : Nat) ∧ Env ac 85 [(1, pt bk1), (5, ni i), (7, .string (bstr m)), (8, ni j)] ∧ Ev w [] wo [.box bk1 [uv64 t, .string (bstr ev), .slice al (List.length xs) cl] 25] ∧ (j ≤ List.length xs) ∧ (docE (headL t ev) xs = docE m (List.drop j xs)) ∧ (List.length m ≤ 64 + 5000 * j)) ⟨_, 0, ((([116, 61] ++ (decL (UInt64.toNat t))) ++ [32, 101, 118, 61]) ++ ev), rfl, En330.sub (by kernel_rfl), Hv328.pick [0] (by kernel_rfl) (by decide), (Nat.zero_le _), (by rw [List.drop_zero]; rfl), (by have := head_len t ev; exact (show (headL t ev).length ≤ 64 + 5000 * 0 by omega))⟩ ?_
    rintro mm337 ac333 wo334 ⟨j, m, rfl, En335, Hv336, hjl, hpg, hm1⟩
    refine wp_seq ?_
    refine wp_seq ?_
    refine region_from ?_
    refine d_k [1,5,7,8,47,48] [] 2 En335 fun ac338 En339 => ?_
    refine f_o ?_
    refine m_l 0 En339 Hv336 fun ac340 En341 => ?_
    refine d_e [1,5,7,8,51] [] En341 fun ac342 En343 => ?_
    refine then_normal ?_
    refine c_d (((j : Nat) : Int) < ((List.length xs : Nat) : Int)) En343 (fun hc344 => ?_) (fun hc344 => ?_)
    ·
     refine wp_skip ?_
     refine then_normal ?_
     refine wp_seq ?_
     refine wp_block ?_
     refine wp_seq ?_
     refine region_from ?_
     refine d_k [1,5,7,8,54] [] 1 En343 fun ac345 En346 => ?_
     refine f_o ?_
     refine m_l 0 En346 Hv336 fun ac347 En348 => ?_
     have hb351 : j < List.length xs := (by omega)
     obtain ⟨adr349, had350⟩ := some_of il.nz hb351
     have hb352 : j < List.length xs := by omega
     obtain ⟨⟨x354a, x354b, x354c, x354d, _⟩, hx353⟩ : ∃ x, (xs)[j]? = some x := ⟨_, List.getElem?_eq_getElem hb352⟩
     obtain ⟨s_x354a, _, _, s_x354d, _⟩ := il.each _ (List.mem_of_getElem? hx353)
     replace s_x354a : (List.length x354a ≤ 140737488351232) := s_x354a
     replace s_x354d : (List.length x354d ≤ 140737488351232) := s_x354d
     refine d_k [1,5,7,8,55,56] [] 3 En348 fun ac355 En356 => ?_
     refine f_o ?_
     refine q_v (x := Instr.indexAt 23 (.slice al (List.length xs) cl) (ni j)) (v := .pointer (some (Addr.add adr349 (j * 4)))) En356 (Go.Dbr.run_indexsl (e := 35) (sz := 4) (j := j) (jo := j * 4) had350 (by kernel_rfl) (by kernel_rfl) (by omega) hb351 rfl _) fun ac357 En358 => ?_
     refine f_o ?_
     refine op_loadaggat (d := some 58) (t := 35) (ad := adr349) (ao := al) (ys := List.flatMap fPair xs) (o := j * 4) (m := 4) (xs := [.string (bstr x354a), .bool x354b, uv64 x354c, .string (bstr x354d)]) En358 (by kernel_rfl) rfl (il.ro.ev Hv336).reads had350 (fun j hj => ?_) rfl (by kernel_rfl) (by kernel_rfl) ?_
     ·
      exact flat_sub (sz := 4) (off := 0) (m := 4) (fun _ _ => rfl) hx353 (by decide) rfl j hj
     intro ac359 En360
     refine f_o ?_
     refine m_z 35 [.string (bstr []), .bool false, .int .u64 0, .string (bstr [])] En360 Hv336 fun ac362 wo363 bk361 En364 Hv365 => ?_
     refine f_o ?_
     refine m_g 1 0 4 [.string (bstr x354a), .bool x354b, uv64 x354c, .string (bstr x354d)] [.string (bstr x354a), .bool x354b, uv64 x354c, .string (bstr x354d)] [.box bk1 [uv64 t, .string (bstr ev), .slice al (List.length xs) cl] 25, .box bk361 [.string (bstr x354a), .bool x354b, uv64 x354c, .string (bstr x354d)] 35] En364 Hv365 rfl rfl (by simp) (one_all (by kernel_rfl)) rfl rfl fun ac366 wo367 En368 Hv369 => ?_
     refine f_e ?_
     refine then_normal ?_
     refine wp_seq ?_
     have hk32 : List.length x354a ≤ 32 := keys_word hK hx353
     have hnl := dec_len _ (UInt64.toNat_lt x354c)
     have hql := quo_len x354d
     have hsz := bstr_size x354d
     refine region_from ?_
     refine d_k [1,5,7,8,9,59] [] 1 En368 fun ac370 En371 => ?_
     refine f_o ?_
     refine q_v (x := Op.stringOp .add (bstr m) (bstr [32])) (v := .string (bstr (m ++ [32]))) En371 (Go.Dbr.run_add_str m [32] (by simp only [List.length_append, List.length_cons, List.length_nil]; omega) _) fun ac372 En373 => ?_
     refine d_k [1,5,7,8,9,60,61] [] 3 En373 fun ac374 En375 => ?_
     refine f_o ?_
     refine m_l 1 En375 Hv369 fun ac376 En377 => ?_
     refine f_o ?_
     refine q_v (x := Op.stringOp .add (bstr (m ++ [32])) (bstr x354a)) (v := .string (bstr ((m ++ [32]) ++ x354a))) En377 (Go.Dbr.run_add_str (m ++ [32]) x354a (by simp only [List.length_append, List.length_cons, List.length_nil]; omega) _) fun ac378 En379 => ?_
     refine f_o ?_
     refine q_v (x := Op.stringOp .add (bstr ((m ++ [32]) ++ x354a)) (bstr [61])) (v := .string (bstr (((m ++ [32]) ++ x354a) ++ [61]))) En379 (Go.Dbr.run_add_str ((m ++ [32]) ++ x354a) [61] (by simp only [List.length_append, List.length_cons, List.length_nil]; omega) _) fun ac380 En381 => ?_
     refine d_e [1,5,7,8,9] [] En381 fun ac382 En383 => ?_
     refine then_normal ?_
     refine wp_seq ?_
     refine region_from ?_
     refine d_k [1,5,7,8,9,65] [] 1 En383 fun ac384 En385 => ?_
     refine f_o ?_
     refine m_l 1 En385 Hv369 fun ac386 En387 => ?_
     refine f_e ?_
     refine then_normal ?_
     refine cond_at En387 (t := x354b) (by kernel_rfl) (fun hc388 => ?_) (fun hc388 => ?_)
     ·
      replace hc388 : x354b = true := hc388
      refine region_from ?_
      refine d_k [1,5,7,8,9,67,68] [] 2 En387 fun ac389 En390 => ?_
      refine f_o ?_
      refine m_l 1 En390 Hv369 fun ac391 En392 => ?_
      refine f_o ?_
      refine c_p En392 Hv369 (fu_go _ x354c ((gt.ev Hv369).nil)) fun ac397 wo394 En398 Hv399 => ?_
      refine f_o ?_
      refine q_v (x := Op.stringOp .add (bstr (((m ++ [32]) ++ x354a) ++ [61])) (bstr (decL (UInt64.toNat x354c)))) (v := .string (bstr ((((m ++ [32]) ++ x354a) ++ [61]) ++ (decL (UInt64.toNat x354c))))) En398 (Go.Dbr.run_add_str (((m ++ [32]) ++ x354a) ++ [61]) (decL (UInt64.toNat x354c)) (by simp only [List.length_append, List.length_cons, List.length_nil]; omega) _) fun ac400 En401 => ?_
      refine d_e [1,5,7,8,9] [] En401 fun ac402 En403 => ?_
      refine block_normal ?_
      refine then_normal ?_
      refine d_r [1,5,7,8,9] [(1, g_n (w_a j 1))] En403 fun ac404 En405 => ?_
      refine then_normal ?_
      refine ⟨_, ⟨j + 1, ((((m ++ [32]) ++ x354a) ++ [61]) ++ (decL (UInt64.toNat x354c))), rfl, En405.sub (by kernel_rfl), Hv399.pick [0] (by kernel_rfl) (by decide), (by omega), (doc_go hpg hx353 (by first | exact sd_1 rfl rfl (by assumption) | exact sd_2 rfl (by assumption)) (by first | exact no_1 (by assumption) | (intro hq; exact absurd hq.2 (by show ¬ 1024 < List.length x354d; omega)))), (by simp only [List.length_append, List.length_cons, List.length_nil]; omega)⟩, ?_⟩
      omega
     ·
      replace hc388 : ¬ (x354b = true) := Bool.eq_false_iff.1 hc388
      refine wp_seq ?_
      refine region_from ?_
      refine d_k [1,5,7,8,9,72] [] 1 En387 fun ac406 En407 => ?_
      refine f_o ?_
      refine m_l 1 En407 Hv369 fun ac408 En409 => ?_
      refine d_e [1,5,7,8,9,75] [] En409 fun ac410 En411 => ?_
      refine then_normal ?_
      refine c_d (((ByteArray.size (bstr x354d) : Nat) : Int) > (1024 : Int)) En411 (fun hc412 => ?_) (fun hc412 => ?_)
      ·
       refine wp_seq ?_
       refine d_r [1,2,3,5,7,8,9] [] En411 fun ac413 En414 => ?_
       refine then_normal ?_
       refine wp_ret ?_
       refine block_ret ?_
       refine then_ret ?_
       refine then_ret ?_
       refine block_ret ?_
       refine then_ret ?_
       refine d_ret2 (t := 2) (u := 3) (v := .string (bstr [])) (x := .int .i64 32) En414 (by kernel_rfl) (by kernel_rfl) (by kernel_rfl) ?_
       rw [show encL t ev xs = ([], 32) from (encd_ok hwe (by omega) hK).trans (doc_bad hpg hx353 (le_of_not (by assumption) (by show 1024 < List.length x354d; omega)))]
       exact ⟨rfl, Hv369.pick [] (by kernel_rfl) (by decide)⟩
      ·
       refine region_from ?_
       refine d_k [1,5,7,8,9,76,77] [] 2 En411 fun ac415 En416 => ?_
       refine f_o ?_
       refine m_l 1 En416 Hv369 fun ac417 En418 => ?_
       refine f_o ?_
       refine c_p En418 Hv369 (quoted_go _ x354d (by omega)) fun ac423 wo420 En424 Hv425 => ?_
       refine f_o ?_
       refine q_v (x := Op.stringOp .add (bstr (((m ++ [32]) ++ x354a) ++ [61])) (bstr (quoL x354d))) (v := .string (bstr ((((m ++ [32]) ++ x354a) ++ [61]) ++ (quoL x354d)))) En424 (Go.Dbr.run_add_str (((m ++ [32]) ++ x354a) ++ [61]) (quoL x354d) (by simp only [List.length_append, List.length_cons, List.length_nil]; omega) _) fun ac426 En427 => ?_
       refine d_e [1,5,7,8,9] [] En427 fun ac428 En429 => ?_
       refine block_normal ?_
       refine then_normal ?_
       refine d_r [1,5,7,8,9] [(1, g_n (w_a j 1))] En429 fun ac430 En431 => ?_
       refine then_normal ?_
       refine ⟨_, ⟨j + 1, ((((m ++ [32]) ++ x354a) ++ [61]) ++ (quoL x354d)), rfl, En431.sub (by kernel_rfl), Hv425.pick [0] (by kernel_rfl) (by decide), (by omega), (doc_go hpg hx353 (by first | exact sd_1 rfl rfl (by assumption) | exact sd_2 rfl (by assumption)) (by first | exact no_1 (by assumption) | (intro hq; exact absurd hq.2 (by show ¬ 1024 < List.length x354d; omega)))), (by simp only [List.length_append, List.length_cons, List.length_nil]; omega)⟩, ?_⟩
       omega
    ·
     refine wp_exit ?_
     refine then_exit ?_
     refine then_exit ?_
     refine block_exit ?_
     refine then_normal ?_
     refine wp_seq ?_
     refine wp_seq ?_
     have hsz := bstr_size m
     refine d_r [1,5,7,8,83] [] En343 fun ac432 En433 => ?_
     refine then_normal ?_
     refine c_d (((ByteArray.size (bstr m) : Nat) : Int) > (1024 : Int)) En433 (fun hc434 => ?_) (fun hc434 => ?_)
     ·
      refine wp_seq ?_
      refine d_r [1,2,3,5,7,8] [] En433 fun ac435 En436 => ?_
      refine then_normal ?_
      refine wp_ret ?_
      refine then_ret ?_
      refine d_ret2 (t := 2) (u := 3) (v := .string (bstr [])) (x := .int .i64 32) En436 (by kernel_rfl) (by kernel_rfl) (by kernel_rfl) ?_
      rw [show encL t ev xs = ([], 32) from (encd_ok hwe (by omega) hK).trans (by rw [hpg, show j = List.length xs from by omega, List.drop_length, docE, if_pos (by omega)])]
      exact ⟨rfl, Hv336.pick [] (by kernel_rfl) (by decide)⟩
     ·
      refine wp_skip ?_
      refine then_normal ?_
      refine wp_seq ?_
      refine d_r [1,2,3,5,7,8] [] En433 fun ac437 En438 => ?_
      refine then_normal ?_
      refine wp_ret ?_
      refine d_ret2 (t := 2) (u := 3) (v := .string (bstr m)) (x := .int .i64 0) En438 (by kernel_rfl) (by kernel_rfl) (by kernel_rfl) ?_
      rw [show encL t ev xs = (m, 0) from (encd_ok hwe (by omega) hK).trans (by rw [hpg, show j = List.length xs from by omega, List.drop_length, docE, if_neg (by omega)])]
      exact ⟨rfl, Hv336.pick [] (by kernel_rfl) (by decide)⟩

end Go.Proofs.YtfcfgbejpcmmkaaDoor
