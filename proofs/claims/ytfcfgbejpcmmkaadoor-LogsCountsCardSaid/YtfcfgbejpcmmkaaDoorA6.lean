/- Layer 3: a line is written. -/
import Derived.Test.YtfcfgbejpcmmkaaDoorA5
import Derived.Test.YtfcfgbejpcmmkaaDoorIter
namespace Go.Proofs.YtfcfgbejpcmmkaaDoor
open Go.Dbr
set_option maxRecDepth 100000
set_option maxHeartbeats 2000000
set_option linter.unusedVariables false
set_option linter.unusedSimpArgs false

/-- keys of pairs, one behind the other -/
def keysF (seen : List RPair) : List RPair → Bool
  | [] => true
  | x :: r => keyB x.1 seen && keysF (seen ++ [x]) r
/-- what a pair says; of a text so many bytes -/
def saysT (x : RPair) (t : Bs) : Bs := 32 :: (x.1 ++ [61]) ++ (if x.2.1 then decL (UInt64.toNat x.2.2.1) else quoL t)
def progE (acc : Bs) : List RPair → Bs × Int
  | [] => (acc, 0)
  | x :: r => if 1024 < (acc ++ saysT x (x.2.2.2.1.take 1025)).length then ([], 32) else progE (acc ++ saysT x (x.2.2.2.1.take 1025)) r
def docE (acc : Bs) : List RPair → Bs × Int
  | [] => if 1024 < acc.length then ([], 32) else (acc, 0)
  | x :: r => if x.2.1 = false ∧ 1024 < x.2.2.2.1.length then ([], 32) else docE (acc ++ saysT x x.2.2.2.1) r
def headL (t : UInt64) (ev : Bs) : Bs := [116, 61] ++ decL (UInt64.toNat t) ++ [32, 101, 118, 61] ++ ev
/-- a line's text, and an error -/
def encL (t : UInt64) (ev : Bs) (xs : List RPair) : Bs × Int :=
  if wordB ev = false then ([], 31) else if 16 < xs.length then ([], 2) else if keysF [] xs = false then ([], 31) else docE (headL t ev) xs
theorem says_len (x : RPair) (t : Bs) : 2 ≤ (saysT x t).length ∧ (saysT x t).length ≤ x.1.length + 4 * t.length + 24 ∧ (x.2.1 = false → t.length + 2 ≤ (saysT x t).length) := by
  have h1 := quo_len t
  have h2 := dec_len _ (UInt64.toNat_lt x.2.2.1)
  unfold saysT
  cases x.2.1 <;> simp only [List.length_append, List.length_cons, List.length_nil, if_true, Bool.false_eq_true, if_false] <;> refine ⟨by omega, by omega, fun h => ?_⟩
  · omega
  · cases h
theorem doc_long : ∀ {xs : List RPair} {acc : Bs}, 1024 < acc.length → docE acc xs = ([], 32)
  | [], acc, h => if_pos h
  | x :: r, acc, h => by
    rw [docE]
    split
    · rfl
    · exact doc_long (by rw [List.length_append]; omega)
theorem enc_eq : ∀ {xs : List RPair} {acc : Bs}, acc.length ≤ 1024 → progE acc xs = docE acc xs
  | [], acc, h => by rw [progE, docE, if_neg (by omega)]
  | x :: r, acc, h => by
    rw [progE, docE]
    by_cases hl : x.2.1 = false ∧ 1024 < x.2.2.2.1.length
    · have := (says_len x (x.2.2.2.1.take 1025)).2.2 hl.1
      rw [if_pos hl, if_pos]
      rw [List.length_append]
      rw [List.length_take] at this
      omega
    · rw [if_neg hl]
      have he : saysT x (x.2.2.2.1.take 1025) = saysT x x.2.2.2.1 := by
        unfold saysT
        cases hb : x.2.1
        · rw [List.take_of_length_le (by have : ¬ 1024 < x.2.2.2.1.length := fun g => hl ⟨hb, g⟩
                                         omega)]
        · rfl
      rw [he]
      by_cases hg : 1024 < (acc ++ saysT x x.2.2.2.1).length
      · rw [if_pos hg, doc_long hg]
      · rw [if_neg hg, enc_eq (by omega)]
theorem head_len (t : UInt64) (ev : Bs) : (headL t ev).length ≤ 26 + ev.length ∧ 7 ≤ (headL t ev).length := by
  have := dec_len _ (UInt64.toNat_lt t)
  unfold headL
  simp only [List.length_append, List.length_cons, List.length_nil]
  omega
theorem keys_go {xs : List RPair} {i : Nat} {x : RPair} (h : keysF [] xs = keysF (xs.take i) (xs.drop i)) (hx : xs[i]? = some x) (g : keyB x.1 (xs.take i) = true) : keysF [] xs = keysF (xs.take (i + 1)) (xs.drop (i + 1)) := by
  obtain ⟨hl, hg⟩ := List.getElem?_eq_some_iff.1 hx
  rw [h, List.drop_eq_getElem_cons hl, hg, keysF, g, Bool.true_and, List.take_add_one, hx]; rfl
theorem keys_bad {xs : List RPair} {i : Nat} {x : RPair} (h : keysF [] xs = keysF (xs.take i) (xs.drop i)) (hx : xs[i]? = some x) (g : ¬ keyB x.1 (xs.take i) = true) : keysF [] xs = false := by
  obtain ⟨hl, hg⟩ := List.getElem?_eq_some_iff.1 hx
  rw [h, List.drop_eq_getElem_cons hl, hg, keysF, Bool.eq_false_iff.2 g, Bool.false_and]
theorem keys_end {xs : List RPair} {i : Nat} (h : keysF [] xs = keysF (xs.take i) (xs.drop i)) (hi : i = xs.length) : keysF [] xs = true := by rw [h, hi, List.drop_length, keysF]
theorem keys_word : ∀ {xs s : List RPair}, keysF s xs = true → ∀ {i : Nat} {x : RPair}, xs[i]? = some x → x.1.length ≤ 32
  | [], _, _, i, x, hx => by simp at hx
  | y :: r, s, h, 0, x, hx => by
    rw [keysF, Bool.and_eq_true] at h
    simp at hx
    subst hx
    exact key_w h.1
  | y :: r, s, h, i + 1, x, hx => by
    rw [keysF, Bool.and_eq_true] at h
    exact keys_word h.2 (by simpa using hx)
theorem prog_go {a0 acc : Bs} {xs : List RPair} {i : Nat} {x : RPair} {b : Bs} (h : progE a0 xs = progE acc (xs.drop i)) (hx : xs[i]? = some x) (hb : b = acc ++ saysT x (x.2.2.2.1.take 1025)) (g : ¬ 1024 < b.length) : progE a0 xs = progE b (xs.drop (i + 1)) := by
  obtain ⟨hl, hg⟩ := List.getElem?_eq_some_iff.1 hx
  subst hb
  rw [h, List.drop_eq_getElem_cons hl, hg, progE, if_neg g]
theorem prog_long {a0 acc : Bs} {xs : List RPair} {i : Nat} {x : RPair} {b : Bs} (h : progE a0 xs = progE acc (xs.drop i)) (hx : xs[i]? = some x) (hb : b = acc ++ saysT x (x.2.2.2.1.take 1025)) (g : 1024 < b.length) : progE a0 xs = ([], 32) := by
  obtain ⟨hl, hg⟩ := List.getElem?_eq_some_iff.1 hx
  subst hb
  rw [h, List.drop_eq_getElem_cons hl, hg, progE, if_pos g]
theorem enc_ok {t : UInt64} {ev : Bs} {xs : List RPair} (h1 : wordB ev = true) (h2 : xs.length ≤ 16) (h3 : keysF [] xs = true) : encL t ev xs = progE (headL t ev) xs := by
  have h4 := head_len t ev
  have h5 := word_len h1
  rw [encL, if_neg (by rw [h1]; decide), if_neg (by omega), if_neg (by rw [h3]; decide), enc_eq (by omega)]
theorem enc_31 {t : UInt64} {ev : Bs} {xs : List RPair} (h1 : ¬ wordB ev = true) : encL t ev xs = ([], 31) := by rw [encL, if_pos (Bool.eq_false_iff.2 h1)]
theorem enc_2 {t : UInt64} {ev : Bs} {xs : List RPair} (h1 : wordB ev = true) (h2 : 16 < xs.length) : encL t ev xs = ([], 2) := by rw [encL, if_neg (by rw [h1]; decide), if_pos h2]
theorem enc_k {t : UInt64} {ev : Bs} {xs : List RPair} (h1 : wordB ev = true) (h2 : xs.length ≤ 16) (h3 : keysF [] xs = false) : encL t ev xs = ([], 31) := by rw [encL, if_neg (by rw [h1]; decide), if_neg (by omega), if_pos h3]
theorem sv_len_1 {x : RPair} {acc k t : Bs} {n : UInt64} (hk : x.1 = k) (hn : x.2.2.1 = n) (h : x.2.1 = true) : acc ++ ([32] ++ k ++ [61]) ++ decL (UInt64.toNat n) = acc ++ saysT x t := by subst hk hn; rw [saysT, if_pos h]; simp
theorem sv_len_2 {x : RPair} {acc k t : Bs} (hk : x.1 = k) (h : ¬ x.2.1 = true) : acc ++ ([32] ++ k ++ [61]) ++ quoL t = acc ++ saysT x t := by subst hk; rw [saysT, if_neg h]; simp

theorem enc_go (w : World) (t : UInt64) (ev : Bs) (hev : List.length ev ≤ 140737488351232) (al : Option Addr) (cl : Nat) (xs : List RPair) (il : InS fPair 48 (fun y : RPair => ((List.length y.1 ≤ 140737488351232) ∧ (True ∧ (True ∧ ((List.length y.2.2.2.1 ≤ 140737488351232) ∧ (True)))))) w [] al cl xs) (gt : InT w []) : Calls Tryd.prog 8 #[.agg #[uv64 t, .string (bstr ev), .slice al (List.length xs) cl]] w fun e w' => e = .returned (.tuple #[.string (bstr (encL t ev xs).1), .int .i64 (encL t ev xs).2]) ∧ Ev w [] w' [] := by
 refine d_0 [(0, .agg #[uv64 t, .string (bstr ev), .slice al (List.length xs) cl])] 76 Go.Proofs.Tryd.func8 Go.Proofs.Tryd.ntmps8 (Heap.nil _) fun act0 En0 Hv0 => ?_
 refine wp_seq ?_
 refine region_from ?_
 refine f_o ?_
 refine m_m 25 [uv64 t, .string (bstr ev), .slice al (List.length xs) cl] En0 Hv0 fun ac2 wo3 bk1 En4 Hv5 => ?_
 refine d_e [1,2,3] [] En4 fun ac6 En7 => ?_
 refine then_normal ?_
 refine wp_seq ?_
 refine wp_block ?_
 refine wp_seq ?_
 refine region_from ?_
 refine d_k [1,2,3,11] [] 1 En7 fun ac8 En9 => ?_
 refine f_o ?_
 refine m_l 0 En9 Hv5 fun ac10 En11 => ?_
 refine f_o ?_
 refine c_p En11 Hv5 (word_go _ ev (by first | assumption | omega)) fun ac16 wo13 En17 Hv18 => ?_
 refine d_e [1,2,3,10] [] En17 fun ac19 En20 => ?_
 refine then_normal ?_
 refine cond_at En20 (t := !(wordB ev)) (by kernel_rfl) (fun hc21 => ?_) (fun hc21 => ?_)
 ·
  replace hc21 : ¬ (wordB ev = true) := by simpa using hc21
  refine wp_seq ?_
  refine d_r [1,2,3] [] En20 fun ac22 En23 => ?_
  refine then_normal ?_
  refine wp_ret ?_
  refine block_ret ?_
  refine then_ret ?_
  refine d_ret2 (t := 2) (u := 3) (v := .string (bstr [])) (x := .int .i64 31) En23 (by kernel_rfl) (by kernel_rfl) (by kernel_rfl) ?_
  rw [show encL t ev xs = ([], 31) from enc_31 (by assumption)]
  exact ⟨rfl, Hv18.pick [] (by kernel_rfl) (by decide)⟩
 ·
  replace hc21 : wordB ev = true := by simpa using hc21
  refine wp_seq ?_
  refine region_from ?_
  refine d_k [1,2,3,16] [] 1 En20 fun ac24 En25 => ?_
  refine f_o ?_
  refine m_l 0 En25 Hv18 fun ac26 En27 => ?_
  refine d_e [1,2,3,15] [] En27 fun ac28 En29 => ?_
  refine then_normal ?_
  refine c_d (((List.length xs : Nat) : Int) > (16 : Int)) En29 (fun hc30 => ?_) (fun hc30 => ?_)
  ·
   refine wp_seq ?_
   refine d_r [1,2,3] [] En29 fun ac31 En32 => ?_
   refine then_normal ?_
   refine wp_ret ?_
   refine block_ret ?_
   refine then_ret ?_
   refine d_ret2 (t := 2) (u := 3) (v := .string (bstr [])) (x := .int .i64 2) En32 (by kernel_rfl) (by kernel_rfl) (by kernel_rfl) ?_
   rw [show encL t ev xs = ([], 2) from enc_2 (by assumption) (by omega)]
   exact ⟨rfl, Hv18.pick [] (by kernel_rfl) (by decide)⟩
  ·
   refine wp_skip ?_
   refine block_normal ?_
   refine then_normal ?_
   refine wp_seq ?_
   refine wp_seq ?_
   refine region_from ?_
   refine d_k [1,2,3,20] [] 1 En29 fun ac33 En34 => ?_
   refine f_o ?_
   refine m_l 0 En34 Hv18 fun ac35 En36 => ?_
   refine d_e [1,2,3,21,22,23] [] En36 fun ac37 En38 => ?_
   refine then_normal ?_
   refine wp_block ?_
   refine loop_m (fun ms39 ac wo => ∃ (i : Nat), ms39 = (List.length xs - i : Nat) ∧ Env ac 76 [(1, pt bk1), (21, .slice al (List.length xs) cl), (22, .int .i64 ((List.length xs : Nat) : Int)), (23, ni i)] ∧ Ev w [] wo [.box bk1 [uv64 t, .string (bstr ev), .slice al (List.length xs) cl] 25] ∧ (i ≤ List.length xs) ∧ (keysF [] xs = keysF (List.take i xs) (List.drop i xs))) ⟨_, 0, rfl, En38.sub (by kernel_rfl), Hv18.pick [0] (by kernel_rfl) (by decide), (Nat.zero_le _), (by simp)⟩ ?_
   rintro mm45 ac41 wo42 ⟨i, rfl, En43, Hv44, hil, hks⟩
   refine wp_seq ?_
   have hzl := il.small
   refine d_r [1,21,22,23,24] [] En43 fun ac46 En47 => ?_
   refine then_normal ?_
   refine wp_seq ?_
   refine c_d (((i : Nat) : Int) < ((List.length xs : Nat) : Int)) En47 (fun hc48 => ?_) (fun hc48 => ?_)
   ·
    refine wp_skip ?_
    refine then_normal ?_
    refine wp_seq ?_
    refine wp_block ?_
    refine wp_seq ?_
    have hb51 : i < List.length xs := (by omega)
    obtain ⟨adr49, had50⟩ := some_of il.nz hb51
    have hb52 : i < List.length xs := by omega
    obtain ⟨⟨x54a, x54b, x54c, x54d, _⟩, hx53⟩ : ∃ x, (xs)[i]? = some x := ⟨_, List.getElem?_eq_getElem hb52⟩
    obtain ⟨s_x54a, _, _, s_x54d, _⟩ := il.each _ (List.mem_of_getElem? hx53)
    replace s_x54a : (List.length x54a ≤ 140737488351232) := s_x54a
    replace s_x54d : (List.length x54d ≤ 140737488351232) := s_x54d
    refine region_from ?_
    refine d_k [1,21,22,23,25] [] 1 En47 fun ac55 En56 => ?_
    refine f_o ?_
    refine q_v (x := Instr.indexAt 23 (.slice al (List.length xs) cl) (ni i)) (v := .pointer (some (Addr.add adr49 (i * 4)))) En56 (Go.Dbr.run_indexsl (e := 35) (sz := 4) (j := i) (jo := i * 4) had50 (by kernel_rfl) (by kernel_rfl) (by omega) hb51 rfl _) fun ac57 En58 => ?_
    refine f_o ?_
    refine op_loadaggat (d := some 27) (t := 35) (ad := adr49) (ao := al) (ys := List.flatMap fPair xs) (o := i * 4) (m := 4) (xs := [.string (bstr x54a), .bool x54b, uv64 x54c, .string (bstr x54d)]) En58 (by kernel_rfl) rfl (il.ro.ev Hv44).reads had50 (fun j hj => ?_) rfl (by kernel_rfl) (by kernel_rfl) ?_
    ·
     exact flat_sub (sz := 4) (off := 0) (m := 4) (fun _ _ => rfl) hx53 (by decide) rfl j hj
    intro ac59 En60
    refine f_o ?_
    refine m_z 35 [.string (bstr []), .bool false, .int .u64 0, .string (bstr [])] En60 Hv44 fun ac62 wo63 bk61 En64 Hv65 => ?_
    refine d_k [1,4,5,21,22,23,27] [] 5 En64 fun ac66 En67 => ?_
    refine f_o ?_
    refine m_g 1 0 4 [.string (bstr x54a), .bool x54b, uv64 x54c, .string (bstr x54d)] [.string (bstr x54a), .bool x54b, uv64 x54c, .string (bstr x54d)] [.box bk1 [uv64 t, .string (bstr ev), .slice al (List.length xs) cl] 25, .box bk61 [.string (bstr x54a), .bool x54b, uv64 x54c, .string (bstr x54d)] 35] En67 Hv65 rfl rfl (by simp) (one_all (by kernel_rfl)) rfl rfl fun ac68 wo69 En70 Hv71 => ?_
    refine f_e ?_
    refine then_normal ?_
    refine wp_seq ?_
    have hcl := il.cap
    refine r_c (fun ac wo => Env ac 76 [(1, pt bk1), (5, pt bk61), (21, .slice al (List.length xs) cl), (22, .int .i64 ((List.length xs : Nat) : Int)), (23, ni i), (35, .bool (!(keyB x54a (List.take i xs))))] ∧ Ev w [] wo [.box bk1 [uv64 t, .string (bstr ev), .slice al (List.length xs) cl] 25, .box bk61 [.string (bstr x54a), .bool x54b, uv64 x54c, .string (bstr x54d)] 35]) ?_ ?_
    ·
     refine s_g0 [(1, pt bk1), (4, ni i), (5, pt bk61), (21, .slice al (List.length xs) cl), (22, .int .i64 ((List.length xs : Nat) : Int)), (23, ni i)] [0,1,2,3,4,5,6,7] [(28, pt bk61), (29, .string (bstr x54a)), (30, .pointer (some ⟨bk1, 2, none⟩)), (31, .slice al (List.length xs) cl), (32, ni i), (33, .slice al i cl), (34, .bool (keyB x54a (List.take i xs))), (35, .bool (!(keyB x54a (List.take i xs))))] 0 [(1, pt bk1), (5, pt bk61), (21, .slice al (List.length xs) cl), (22, .int .i64 ((List.length xs : Nat) : Int)), (23, ni i), (35, .bool (!(keyB x54a (List.take i xs))))] (En70.sb) (Hv71.trans (Ev.drew Hv71.heap)) ?_ fun ac102 wo103 En104 Hv105 => ?_
     ·
      refine s_p [] ?_
      refine s_l 1 ?_
      refine s_p [] ?_
      refine s_l 0 ?_
      refine s_p [] ?_
      refine s_c (fun Mx82 ac83 wo84 En85 Hv86 => ?_) ?_
      ·
       refine op_slice0 (d := some 33) (t := 23) (e := 35) (sz := 4) (len := List.length xs) (cap := cl) (hi := i) (ao := al) (lov := none) (hiv := (some (ni i))) En85 (by kernel_rfl) (by kernel_rfl) (by kernel_rfl) (by omega) (.inl ⟨rfl, rfl⟩) (.inr ⟨.i64, rfl⟩) ?_
       intro ac87 En88
       exact s_e En88 Hv86
      refine s_c (fun Mx89 ac90 wo91 En92 Hv93 => ?_) ?_
      ·
       refine c_p En92 Hv93 (keyed_go _ x54a (by first | assumption | omega) i al cl (List.take i xs) ((il.go Hv93 [] (by kernel_rfl) (fun _ h => ⟨h.1, h.2.1, h.2.2.1, h.2.2.2.1, h.2.2.2.2⟩)).take i) (by first | rfl | (rw [List.length_take]; omega))) fun ac98 wo99 En100 Hv101 => ?_
       exact s_e En100 Hv101
      refine s_p [] ?_
      exact s_n
     exact a_e ⟨En104.sub (by kernel_rfl), Hv105.pick [0, 1] (by kernel_rfl) (by decide)⟩
    rintro ac106 wo107 ⟨En108, Hv109⟩
    refine then_normal ?_
    refine cond_at En108 (t := !(keyB x54a (List.take i xs))) (by kernel_rfl) (fun hc110 => ?_) (fun hc110 => ?_)
    ·
     replace hc110 : ¬ (keyB x54a (List.take i xs) = true) := by simpa using hc110
     refine wp_seq ?_
     refine d_r [1,2,3,5,21,22,23] [] En108 fun ac111 En112 => ?_
     refine then_normal ?_
     refine wp_ret ?_
     refine block_ret ?_
     refine then_ret ?_
     refine then_ret ?_
     refine block_ret ?_
     refine then_ret ?_
     refine d_ret2 (t := 2) (u := 3) (v := .string (bstr [])) (x := .int .i64 31) En112 (by kernel_rfl) (by kernel_rfl) (by kernel_rfl) ?_
     rw [show encL t ev xs = ([], 31) from enc_k (by assumption) (by omega) (keys_bad hks hx53 (by assumption))]
     exact ⟨rfl, Hv109.pick [] (by kernel_rfl) (by decide)⟩
    ·
     replace hc110 : keyB x54a (List.take i xs) = true := by simpa using hc110
     refine wp_skip ?_
     refine block_normal ?_
     refine then_normal ?_
     refine d_r [1,5,21,22,23] [(0, g_n (w_a i 1))] En108 fun ac113 En114 => ?_
     refine then_normal ?_
     refine ⟨_, ⟨i + 1, rfl, En114.sub (by kernel_rfl), Hv109.pick [0] (by kernel_rfl) (by decide), (by omega), (keys_go hks hx53 (by assumption))⟩, ?_⟩
     omega
   ·
    refine wp_exit ?_
    refine then_exit ?_
    refine then_exit ?_
    refine block_exit ?_
    refine then_normal ?_
    refine wp_seq ?_
    have hK := keys_end hks (by omega)
    have hwe : wordB ev = true := by assumption
    have hwl := word_len hwe
    have hdt := dec_len _ (UInt64.toNat_lt t)
    refine region_from ?_
    refine f_o ?_
    refine m_z 61 [.pointer none, .slice none 0 0] En47 Hv44 fun ac116 wo117 bk115 En118 Hv119 => ?_
    refine f_e ?_
    refine then_normal ?_
    refine wp_seq ?_
    refine d_r [1,6,7,21,22,23] [] En118 fun ac120 En121 => ?_
    refine then_normal ?_
    refine wp_seq ?_
    refine r_c (fun ac wo => ∃ (ab171 : _) (cb172 : _), Env ac 76 [(1, pt bk1), (6, pt bk115), (7, .func (.func 20) #[pt bk115] #[]), (21, .slice al (List.length xs) cl), (22, .int .i64 ((List.length xs : Nat) : Int)), (23, ni i)] ∧ Ev w [] wo [.box bk115 [bp true bk115, .slice ab171 (List.length ([] ++ ((([116, 61] ++ (decL (UInt64.toNat t))) ++ [32, 101, 118, 61]) ++ ev))) cb172] 61, .vec ab171 cb172 1 (bys ([] ++ ((([116, 61] ++ (decL (UInt64.toNat t))) ++ [32, 101, 118, 61]) ++ ev))) 5, .box bk1 [uv64 t, .string (bstr ev), .slice al (List.length xs) cl] 25]) ?_ ?_
    ·
     refine s_g0 [(1, pt bk1), (6, pt bk115), (7, .func (.func 20) #[pt bk115] #[]), (21, .slice al (List.length xs) cl), (22, .int .i64 ((List.length xs : Nat) : Int)), (23, ni i)] [0,1,2,3,4,5,6,7,8] [(38, .func (.func 20) #[pt bk115] #[]), (39, pt bk1), (40, uv64 t), (41, .string (bstr (decL (UInt64.toNat t)))), (42, .string (bstr ([116, 61] ++ (decL (UInt64.toNat t))))), (43, .string (bstr (([116, 61] ++ (decL (UInt64.toNat t))) ++ [32, 101, 118, 61]))), (44, .pointer (some ⟨bk1, 1, none⟩)), (45, .string (bstr ev)), (46, .string (bstr ((([116, 61] ++ (decL (UInt64.toNat t))) ++ [32, 101, 118, 61]) ++ ev)))] 1 [(1, pt bk1), (6, pt bk115), (7, .func (.func 20) #[pt bk115] #[]), (21, .slice al (List.length xs) cl), (22, .int .i64 ((List.length xs : Nat) : Int)), (23, ni i), (38, .func (.func 20) #[pt bk115] #[]), (46, .string (bstr ((([116, 61] ++ (decL (UInt64.toNat t))) ++ [32, 101, 118, 61]) ++ ev)))] (En121.sb) (Hv119.trans (Ev.drew Hv119.heap)) ?_ fun ac166 wo167 En168 Hv169 => ?_
     ·
      refine s_p [] ?_
      refine s_p [] ?_
      refine s_l 0 ?_
      refine s_c (fun Mx127 ac128 wo129 En130 Hv131 => ?_) ?_
      ·
       refine c_p En130 Hv131 (fu_go _ t ((gt.ev Hv131).nil)) fun ac136 wo137 En138 Hv139 => ?_
       exact s_e En138 Hv139
      refine s_c (fun Mx140 ac141 wo142 En143 Hv144 => ?_) ?_
      ·
       refine q_v (x := Op.stringOp .add (bstr [116, 61]) (bstr (decL (UInt64.toNat t)))) (v := .string (bstr ([116, 61] ++ (decL (UInt64.toNat t))))) En143 (Go.Dbr.run_add_str [116, 61] (decL (UInt64.toNat t)) (by simp only [List.length_append, List.length_cons, List.length_nil]; omega) _) fun ac145 En146 => ?_
       exact s_e En146 Hv144
      refine s_c (fun Mx147 ac148 wo149 En150 Hv151 => ?_) ?_
      ·
       refine q_v (x := Op.stringOp .add (bstr ([116, 61] ++ (decL (UInt64.toNat t)))) (bstr [32, 101, 118, 61])) (v := .string (bstr (([116, 61] ++ (decL (UInt64.toNat t))) ++ [32, 101, 118, 61]))) En150 (Go.Dbr.run_add_str ([116, 61] ++ (decL (UInt64.toNat t))) [32, 101, 118, 61] (by simp only [List.length_append, List.length_cons, List.length_nil]; omega) _) fun ac152 En153 => ?_
       exact s_e En153 Hv151
      refine s_p [] ?_
      refine s_l 0 ?_
      refine s_c (fun Mx159 ac160 wo161 En162 Hv163 => ?_) ?_
      ·
       refine q_v (x := Op.stringOp .add (bstr (([116, 61] ++ (decL (UInt64.toNat t))) ++ [32, 101, 118, 61])) (bstr ev)) (v := .string (bstr ((([116, 61] ++ (decL (UInt64.toNat t))) ++ [32, 101, 118, 61]) ++ ev))) En162 (Go.Dbr.run_add_str (([116, 61] ++ (decL (UInt64.toNat t))) ++ [32, 101, 118, 61]) ev (by simp only [List.length_append, List.length_cons, List.length_nil]; omega) _) fun ac164 En165 => ?_
       exact s_e En165 Hv163
      exact s_n
     refine q_u 9 ?_
     have Hv180 : Ev w [] wo167 [.box bk1 [uv64 t, .string (bstr ev), .slice al (List.length xs) cl] 25, .box bk115 [.pointer none, .slice none 0 0] 61, .vec none 0 1 (bys []) 5] := Ev.nil (sz := 1) (T := 5) Hv169
     refine c_l [1,2] (M := [.box bk115 [.pointer none, .slice none 0 0] 61, .vec none 0 1 (bys []) 5]) En168 Hv180 (fun hM183 => write_go _ false bk115 none 0 [] ((([116, 61] ++ (decL (UInt64.toNat t))) ++ [32, 101, 118, 61]) ++ ev) (by simp only [List.length_append, List.length_cons, List.length_nil]; omega) hM183) ?_
     rintro _ wo184 ⟨ab181, cb182, rfl, he185⟩
     refine ⟨_, _, [.box bk115 [bp true bk115, .slice ab181 (List.length ([] ++ ((([116, 61] ++ (decL (UInt64.toNat t))) ++ [32, 101, 118, 61]) ++ ev))) cb182] 61, .vec ab181 cb182 1 (bys ([] ++ ((([116, 61] ++ (decL (UInt64.toNat t))) ++ [32, 101, 118, 61]) ++ ev))) 5, .box bk1 [uv64 t, .string (bstr ev), .slice al (List.length xs) cl] 25], rfl, he185, by kernel_rfl, fun ac187 En188 Hv189 => ?_⟩
     exact a_e ⟨ab181, cb182, En188.sub (by kernel_rfl), Hv189.pick [0, 1, 2] (by kernel_rfl) (by decide)⟩
    rintro ac190 wo191 ⟨ab171, cb172, En192, Hv193⟩
    refine then_normal ?_
    refine wp_seq ?_
    refine wp_seq ?_
    refine region_from ?_
    refine d_k [1,6,7,21,22,23,48] [] 1 En192 fun ac194 En195 => ?_
    refine f_o ?_
    refine m_l 2 En195 Hv193 fun ac196 En197 => ?_
    refine d_e [1,6,7,21,22,23,49,50,51] [] En197 fun ac198 En199 => ?_
    refine then_normal ?_
    refine wp_block ?_
    refine loop_m (fun ms200 ac wo => ∃ (j : Nat) (a2 : Option Addr) (c2 : Nat) (m : Bs), ms200 = (List.length xs - j : Nat) ∧ Env ac 76 [(1, pt bk1), (6, pt bk115), (7, .func (.func 20) #[pt bk115] #[]), (21, .slice al (List.length xs) cl), (22, .int .i64 ((List.length xs : Nat) : Int)), (23, ni i), (49, .slice al (List.length xs) cl), (50, .int .i64 ((List.length xs : Nat) : Int)), (51, ni j)] ∧ Ev w [] wo [.box bk115 [bp true bk115, .slice a2 (List.length m) c2] 61, .vec a2 c2 1 (bys m) 5, .box bk1 [uv64 t, .string (bstr ev), .slice al (List.length xs) cl] 25] ∧ (j ≤ List.length xs) ∧ (progE (headL t ev) xs = progE m (List.drop j xs)) ∧ (List.length m ≤ 1024) ∧ (1 ≤ List.length m)) ⟨_, 0, ab171, cb172, ([] ++ ((([116, 61] ++ (decL (UInt64.toNat t))) ++ [32, 101, 118, 61]) ++ ev)), rfl, En199.sub (by kernel_rfl), Hv193.pick [0, 1, 2] (by kernel_rfl) (by decide), (Nat.zero_le _), (by rw [List.nil_append, List.drop_zero]; rfl), (by rw [List.nil_append]; have := head_len t ev; exact (show (headL t ev).length ≤ 1024 by omega)), (by rw [List.nil_append]; have := head_len t ev; exact (show 1 ≤ (headL t ev).length by omega))⟩ ?_
    rintro mm206 ac202 wo203 ⟨j, a2, c2, m, rfl, En204, Hv205, hjl, hpg, hm1, hm0⟩
    refine wp_seq ?_
    refine d_r [1,6,7,21,22,23,49,50,51,52] [] En204 fun ac207 En208 => ?_
    refine then_normal ?_
    refine wp_seq ?_
    refine c_d (((j : Nat) : Int) < ((List.length xs : Nat) : Int)) En208 (fun hc209 => ?_) (fun hc209 => ?_)
    ·
     refine wp_skip ?_
     refine then_normal ?_
     refine wp_seq ?_
     refine wp_block ?_
     refine wp_seq ?_
     have hb212 : j < List.length xs := (by omega)
     obtain ⟨adr210, had211⟩ := some_of il.nz hb212
     have hb213 : j < List.length xs := by omega
     obtain ⟨⟨x215a, x215b, x215c, x215d, _⟩, hx214⟩ : ∃ x, (xs)[j]? = some x := ⟨_, List.getElem?_eq_getElem hb213⟩
     obtain ⟨s_x215a, _, _, s_x215d, _⟩ := il.each _ (List.mem_of_getElem? hx214)
     replace s_x215a : (List.length x215a ≤ 140737488351232) := s_x215a
     replace s_x215d : (List.length x215d ≤ 140737488351232) := s_x215d
     refine region_from ?_
     refine f_o ?_
     refine q_v (x := Instr.indexAt 23 (.slice al (List.length xs) cl) (ni j)) (v := .pointer (some (Addr.add adr210 (j * 4)))) En208 (Go.Dbr.run_indexsl (e := 35) (sz := 4) (j := j) (jo := j * 4) had211 (by kernel_rfl) (by kernel_rfl) (by omega) hb212 rfl _) fun ac216 En217 => ?_
     refine f_o ?_
     refine op_loadaggat (d := some 54) (t := 35) (ad := adr210) (ao := al) (ys := List.flatMap fPair xs) (o := j * 4) (m := 4) (xs := [.string (bstr x215a), .bool x215b, uv64 x215c, .string (bstr x215d)]) En217 (by kernel_rfl) rfl (il.ro.ev Hv205).reads had211 (fun j hj => ?_) rfl (by kernel_rfl) (by kernel_rfl) ?_
     ·
      exact flat_sub (sz := 4) (off := 0) (m := 4) (fun _ _ => rfl) hx214 (by decide) rfl j hj
     intro ac218 En219
     refine f_o ?_
     refine m_z 35 [.string (bstr []), .bool false, .int .u64 0, .string (bstr [])] En219 Hv205 fun ac221 wo222 bk220 En223 Hv224 => ?_
     refine f_o ?_
     refine m_g 3 0 4 [.string (bstr x215a), .bool x215b, uv64 x215c, .string (bstr x215d)] [.string (bstr x215a), .bool x215b, uv64 x215c, .string (bstr x215d)] [.box bk115 [bp true bk115, .slice a2 (List.length m) c2] 61, .vec a2 c2 1 (bys m) 5, .box bk1 [uv64 t, .string (bstr ev), .slice al (List.length xs) cl] 25, .box bk220 [.string (bstr x215a), .bool x215b, uv64 x215c, .string (bstr x215d)] 35] En223 Hv224 rfl rfl (by simp) (one_all (by kernel_rfl)) rfl rfl fun ac225 wo226 En227 Hv228 => ?_
     refine f_e ?_
     refine then_normal ?_
     refine wp_seq ?_
     have hk32 : List.length x215a ≤ 32 := keys_word hK hx214
     have hnl := dec_len _ (UInt64.toNat_lt x215c)
     refine region_from ?_
     refine d_k [1,6,7,9,21,22,23,49,50,51,55,56] [] 2 En227 fun ac229 En230 => ?_
     refine f_o ?_
     refine m_l 3 En230 Hv228 fun ac231 En232 => ?_
     refine f_o ?_
     refine q_v (x := Op.stringOp .add (bstr [32]) (bstr x215a)) (v := .string (bstr ([32] ++ x215a))) En232 (Go.Dbr.run_add_str [32] x215a (by simp only [List.length_append, List.length_cons, List.length_nil]; omega) _) fun ac233 En234 => ?_
     refine f_o ?_
     refine q_v (x := Op.stringOp .add (bstr ([32] ++ x215a)) (bstr [61])) (v := .string (bstr (([32] ++ x215a) ++ [61]))) En234 (Go.Dbr.run_add_str ([32] ++ x215a) [61] (by simp only [List.length_append, List.length_cons, List.length_nil]; omega) _) fun ac235 En236 => ?_
     refine f_o ?_
     refine c_l [0,1] (M := [.box bk115 [bp true bk115, .slice a2 (List.length m) c2] 61, .vec a2 c2 1 (bys m) 5]) En236 Hv228 (fun hM239 => write_go _ true bk115 a2 c2 m (([32] ++ x215a) ++ [61]) (by simp only [List.length_append, List.length_cons, List.length_nil]; omega) hM239) ?_
     rintro _ wo240 ⟨ab237, cb238, rfl, he241⟩
     refine ⟨_, _, [.box bk115 [bp true bk115, .slice ab237 (List.length (m ++ (([32] ++ x215a) ++ [61]))) cb238] 61, .vec ab237 cb238 1 (bys (m ++ (([32] ++ x215a) ++ [61]))) 5, .box bk1 [uv64 t, .string (bstr ev), .slice al (List.length xs) cl] 25, .box bk220 [.string (bstr x215a), .bool x215b, uv64 x215c, .string (bstr x215d)] 35], rfl, he241, by kernel_rfl, fun ac243 En244 Hv245 => ?_⟩
     refine f_e ?_
     refine then_normal ?_
     refine wp_seq ?_
     refine wp_seq ?_
     refine region_from ?_
     refine d_k [1,6,7,9,21,22,23,49,50,51,61] [] 1 En244 fun ac246 En247 => ?_
     refine f_o ?_
     refine m_l 3 En247 Hv245 fun ac248 En249 => ?_
     refine f_e ?_
     refine then_normal ?_
     refine cond_at En249 (t := x215b) (by kernel_rfl) (fun hc250 => ?_) (fun hc250 => ?_)
     ·
      replace hc250 : x215b = true := hc250
      refine region_from ?_
      refine d_k [1,6,7,9,21,22,23,49,50,51,63,64] [] 2 En249 fun ac251 En252 => ?_
      refine f_o ?_
      refine m_l 3 En252 Hv245 fun ac253 En254 => ?_
      refine f_o ?_
      refine c_p En254 Hv245 (fu_go _ x215c ((gt.ev Hv245).nil)) fun ac259 wo256 En260 Hv261 => ?_
      refine f_o ?_
      refine c_l [0,1] (M := [.box bk115 [bp true bk115, .slice ab237 (List.length (m ++ (([32] ++ x215a) ++ [61]))) cb238] 61, .vec ab237 cb238 1 (bys (m ++ (([32] ++ x215a) ++ [61]))) 5]) En260 Hv261 (fun hM264 => write_go _ true bk115 ab237 cb238 (m ++ (([32] ++ x215a) ++ [61])) (decL (UInt64.toNat x215c)) (by simp only [List.length_append, List.length_cons, List.length_nil]; omega) hM264) ?_
      rintro _ wo265 ⟨ab262, cb263, rfl, he266⟩
      refine ⟨_, _, [.box bk115 [bp true bk115, .slice ab262 (List.length ((m ++ (([32] ++ x215a) ++ [61])) ++ (decL (UInt64.toNat x215c)))) cb263] 61, .vec ab262 cb263 1 (bys ((m ++ (([32] ++ x215a) ++ [61])) ++ (decL (UInt64.toNat x215c)))) 5, .box bk1 [uv64 t, .string (bstr ev), .slice al (List.length xs) cl] 25, .box bk220 [.string (bstr x215a), .bool x215b, uv64 x215c, .string (bstr x215d)] 35], rfl, he266, by kernel_rfl, fun ac268 En269 Hv270 => ?_⟩
      refine f_e ?_
      refine then_normal ?_
      refine wp_seq ?_
      refine region_from ?_
      refine f_o ?_
      refine c_l [0] (M := [.box bk115 [bp true bk115, .slice ab262 (List.length ((m ++ (([32] ++ x215a) ++ [61])) ++ (decL (UInt64.toNat x215c)))) cb263] 61]) En269 Hv270 (fun hM271 => blen_go _ true bk115 ab262 cb263 ((m ++ (([32] ++ x215a) ++ [61])) ++ (decL (UInt64.toNat x215c))) hM271) ?_
      rintro _ wo272 ⟨rfl, he273⟩
      refine ⟨_, _, [.box bk115 [bp true bk115, .slice ab262 (List.length ((m ++ (([32] ++ x215a) ++ [61])) ++ (decL (UInt64.toNat x215c)))) cb263] 61, .vec ab262 cb263 1 (bys ((m ++ (([32] ++ x215a) ++ [61])) ++ (decL (UInt64.toNat x215c)))) 5, .box bk1 [uv64 t, .string (bstr ev), .slice al (List.length xs) cl] 25, .box bk220 [.string (bstr x215a), .bool x215b, uv64 x215c, .string (bstr x215d)] 35], rfl, he273, by kernel_rfl, fun ac275 En276 Hv277 => ?_⟩
      refine d_e [1,6,7,9,21,22,23,49,50,51,73] [] En276 fun ac278 En279 => ?_
      refine then_normal ?_
      refine c_d (((List.length ((m ++ (([32] ++ x215a) ++ [61])) ++ (decL (UInt64.toNat x215c))) : Nat) : Int) > (1024 : Int)) En279 (fun hc280 => ?_) (fun hc280 => ?_)
      ·
       refine wp_seq ?_
       refine d_r [1,2,3,6,7,9,21,22,23,49,50,51] [] En279 fun ac281 En282 => ?_
       refine then_normal ?_
       refine wp_ret ?_
       refine block_ret ?_
       refine then_ret ?_
       refine then_ret ?_
       refine block_ret ?_
       refine then_ret ?_
       refine d_ret2 (t := 2) (u := 3) (v := .string (bstr [])) (x := .int .i64 32) En282 (by kernel_rfl) (by kernel_rfl) (by kernel_rfl) ?_
       rw [show encL t ev xs = ([], 32) from (enc_ok hwe (by omega) hK).trans (prog_long (b := ((m ++ (([32] ++ x215a) ++ [61])) ++ (decL (UInt64.toNat x215c)))) hpg hx214 (by first | exact sv_len_1 rfl rfl (by assumption) | exact sv_len_2 rfl (by assumption)) (by omega))]
       exact ⟨rfl, Hv277.pick [] (by kernel_rfl) (by decide)⟩
      ·
       refine wp_skip ?_
       refine block_normal ?_
       refine then_normal ?_
       refine d_r [1,6,7,9,21,22,23,49,50,51] [(0, g_n (w_a j 1))] En279 fun ac283 En284 => ?_
       refine then_normal ?_
       refine ⟨_, ⟨j + 1, ab262, cb263, ((m ++ (([32] ++ x215a) ++ [61])) ++ (decL (UInt64.toNat x215c))), rfl, En284.sub (by kernel_rfl), Hv277.pick [0, 1, 2] (by kernel_rfl) (by decide), (by omega), (prog_go hpg hx214 (by first | exact sv_len_1 rfl rfl (by assumption) | exact sv_len_2 rfl (by assumption)) (by omega)), (by omega), (by simp only [List.length_append, List.length_cons, List.length_nil]; omega)⟩, ?_⟩
       omega
     ·
      replace hc250 : ¬ (x215b = true) := Bool.eq_false_iff.1 hc250
      refine region_from ?_
      refine d_k [1,6,7,9,21,22,23,49,50,51,68] [] 1 En249 fun ac285 En286 => ?_
      refine f_o ?_
      refine m_l 3 En286 Hv245 fun ac287 En288 => ?_
      refine d_k [1,6,7,9,21,22,23,49,50,51,69,70] [] 3 En288 fun ac289 En290 => ?_
      refine f_o ?_
      refine c_l [0,1] (M := [.box bk115 [bp true bk115, .slice ab237 (List.length (m ++ (([32] ++ x215a) ++ [61]))) cb238] 61, .vec ab237 cb238 1 (bys (m ++ (([32] ++ x215a) ++ [61]))) 5]) En290 Hv245 (fun hM293 => quote_go _ true bk115 ab237 cb238 (m ++ (([32] ++ x215a) ++ [61])) x215d (by simp only [List.length_append, List.length_cons, List.length_nil]; omega) (by omega) hM293) ?_
      rintro _ wo294 ⟨ab291, cb292, rfl, he295⟩
      refine ⟨_, _, [.box bk115 [bp true bk115, .slice ab291 (List.length ((m ++ (([32] ++ x215a) ++ [61])) ++ quoL (List.take 1025 x215d))) cb292] 61, .vec ab291 cb292 1 (bys ((m ++ (([32] ++ x215a) ++ [61])) ++ quoL (List.take 1025 x215d))) 5, .box bk1 [uv64 t, .string (bstr ev), .slice al (List.length xs) cl] 25, .box bk220 [.string (bstr x215a), .bool x215b, uv64 x215c, .string (bstr x215d)] 35], rfl, he295, by kernel_rfl, fun ac297 En298 Hv299 => ?_⟩
      refine f_e ?_
      refine then_normal ?_
      refine wp_seq ?_
      refine region_from ?_
      refine f_o ?_
      refine c_l [0] (M := [.box bk115 [bp true bk115, .slice ab291 (List.length ((m ++ (([32] ++ x215a) ++ [61])) ++ quoL (List.take 1025 x215d))) cb292] 61]) En298 Hv299 (fun hM300 => blen_go _ true bk115 ab291 cb292 ((m ++ (([32] ++ x215a) ++ [61])) ++ quoL (List.take 1025 x215d)) hM300) ?_
      rintro _ wo301 ⟨rfl, he302⟩
      refine ⟨_, _, [.box bk115 [bp true bk115, .slice ab291 (List.length ((m ++ (([32] ++ x215a) ++ [61])) ++ quoL (List.take 1025 x215d))) cb292] 61, .vec ab291 cb292 1 (bys ((m ++ (([32] ++ x215a) ++ [61])) ++ quoL (List.take 1025 x215d))) 5, .box bk1 [uv64 t, .string (bstr ev), .slice al (List.length xs) cl] 25, .box bk220 [.string (bstr x215a), .bool x215b, uv64 x215c, .string (bstr x215d)] 35], rfl, he302, by kernel_rfl, fun ac304 En305 Hv306 => ?_⟩
      refine d_e [1,6,7,9,21,22,23,49,50,51,73] [] En305 fun ac307 En308 => ?_
      refine then_normal ?_
      refine c_d (((List.length ((m ++ (([32] ++ x215a) ++ [61])) ++ quoL (List.take 1025 x215d)) : Nat) : Int) > (1024 : Int)) En308 (fun hc309 => ?_) (fun hc309 => ?_)
      ·
       refine wp_seq ?_
       refine d_r [1,2,3,6,7,9,21,22,23,49,50,51] [] En308 fun ac310 En311 => ?_
       refine then_normal ?_
       refine wp_ret ?_
       refine block_ret ?_
       refine then_ret ?_
       refine then_ret ?_
       refine block_ret ?_
       refine then_ret ?_
       refine d_ret2 (t := 2) (u := 3) (v := .string (bstr [])) (x := .int .i64 32) En311 (by kernel_rfl) (by kernel_rfl) (by kernel_rfl) ?_
       rw [show encL t ev xs = ([], 32) from (enc_ok hwe (by omega) hK).trans (prog_long (b := ((m ++ (([32] ++ x215a) ++ [61])) ++ quoL (List.take 1025 x215d))) hpg hx214 (by first | exact sv_len_1 rfl rfl (by assumption) | exact sv_len_2 rfl (by assumption)) (by omega))]
       exact ⟨rfl, Hv306.pick [] (by kernel_rfl) (by decide)⟩
      ·
       refine wp_skip ?_
       refine block_normal ?_
       refine then_normal ?_
       refine d_r [1,6,7,9,21,22,23,49,50,51] [(0, g_n (w_a j 1))] En308 fun ac312 En313 => ?_
       refine then_normal ?_
       refine ⟨_, ⟨j + 1, ab291, cb292, ((m ++ (([32] ++ x215a) ++ [61])) ++ quoL (List.take 1025 x215d)), rfl, En313.sub (by kernel_rfl), Hv306.pick [0, 1, 2] (by kernel_rfl) (by decide), (by omega), (prog_go hpg hx214 (by first | exact sv_len_1 rfl rfl (by assumption) | exact sv_len_2 rfl (by assumption)) (by omega)), (by omega), (by simp only [List.length_append, List.length_cons, List.length_nil]; omega)⟩, ?_⟩
       omega
    ·
     refine wp_exit ?_
     refine then_exit ?_
     refine then_exit ?_
     refine block_exit ?_
     refine then_normal ?_
     refine wp_seq ?_
     refine region_from ?_
     refine f_o ?_
     refine c_l [0,1] (M := [.box bk115 [bp true bk115, .slice a2 (List.length m) c2] 61, .vec a2 c2 1 (bys m) 5]) En208 Hv205 (fun hM314 => bstr_go _ true bk115 a2 c2 m (List.length_pos_iff.1 (by omega)) (by omega) hM314) ?_
     rintro _ wo315 ⟨rfl, he316⟩
     refine ⟨_, _, [.box bk115 [bp true bk115, .slice a2 (List.length m) c2] 61, .box bk1 [uv64 t, .string (bstr ev), .slice al (List.length xs) cl] 25], rfl, he316, by kernel_rfl, fun ac318 En319 Hv320 => ?_⟩
     refine d_e [1,2,3,6,7,21,22,23,49,50,51] [] En319 fun ac321 En322 => ?_
     refine then_normal ?_
     refine wp_ret ?_
     refine d_ret2 (t := 2) (u := 3) (v := .string (bstr m)) (x := .int .i64 0) En322 (by kernel_rfl) (by kernel_rfl) (by kernel_rfl) ?_
     rw [show encL t ev xs = (m, 0) from (enc_ok hwe (by omega) hK).trans (by rw [hpg, show j = List.length xs from by omega, List.drop_length, progE])]
     exact ⟨rfl, Hv320.pick [] (by kernel_rfl) (by decide)⟩

end Go.Proofs.YtfcfgbejpcmmkaaDoor
