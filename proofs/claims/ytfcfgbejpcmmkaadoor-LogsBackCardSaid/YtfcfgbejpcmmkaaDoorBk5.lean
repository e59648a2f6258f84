import Derived.Test.YtfcfgbejpcmmkaaDoorBk4
import Derived.Test.YtfcfgbejpcmmkaaDoorBk3
import Derived.Shelf.Strings.Builder1
import Derived.Shelf.Strings.Trim
import Derived.Shelf.Strings.SlTrimAscii
import Derived.Shelf.Small.Utf8
import Derived.Shelf.Small.Bits
import Derived.Shelf.Small.Strs
import Derived.Shelf.Strconv.Itoa0
import Derived.Shelf.Strconv.Itoa1
import Derived.Shelf.LaysM
import Derived.Shelf.Strconv.Itoa2
import Derived.Shelf.Strconv.Itoa3
import Derived.Ground.MpProg
import Derived.Shelf.Pu.ParseUintPublic10
import Derived.Shelf.Pu.ErrVarParseUint
import Derived.Shelf.Strings.Search1
import Derived.Shelf.Sort.Plain
import Derived.Shelf.Strings.Prefix
import Derived.Shelf.Unicode.Decode
import Derived.Shelf.Strings.Runes
import Derived.Shelf.Strings.AsciiSet
import Derived.Shelf.Unicode.DecodeSlow
import Derived.Shelf.Unicode.DecodeAny
import Derived.Ground.Names2Prog
import Derived.Shelf.Slices.Clone
import Derived.Shelf.Slices.Delete
import Derived.Shelf.Slices.Cells
import Derived.Shelf.Slices.In.SortNone
import Derived.Shelf.Slices.Empties
import Derived.Ground.SlgnProg
import Derived.Shelf.SlicesE.Clone
import Derived.Test.YtfcfgbejpcmmkaaDoorProg
import Derived.Sort.KeysCollected
import Derived.Sort.EncStr
import Derived.Below
import Derived.Test.YtfcfgbejpcmmkaaDoorBk1
import Derived.Laws.Strings2
import Derived.Laws.Strings3
import Derived.Laws.Slices
/- Layer 3: a line is written. -/


namespace Go.Proofs.YtfcfgbejpcmmkaaDoor
open Go.Dbr
set_option maxRecDepth 100000
set_option maxHeartbeats 2000000
set_option linter.unusedVariables false
set_option linter.unusedSimpArgs false

/-- keys of pairs, one behind the other -/
def keysF (seen : List RPair) : List RPair → Bool
  | [] => true
  | x :: r => keyB x.1 seen && keysF (seen ++ [x]) r
/-- what a pair says; of a text so many bytes -/
def saysT (x : RPair) (t : Bs) : Bs := 32 :: (x.1 ++ [61]) ++ (if x.2.1 then decL (UInt64.toNat x.2.2.1) else quoL t)
def progE (acc : Bs) : List RPair → Bs × Int
  | [] => (acc, 0)
  | x :: r => if 1024 < (acc ++ saysT x (x.2.2.2.1.take 1025)).length then ([], 32) else progE (acc ++ saysT x (x.2.2.2.1.take 1025)) r
def docE (acc : Bs) : List RPair → Bs × Int
  | [] => if 1024 < acc.length then ([], 32) else (acc, 0)
  | x :: r => if x.2.1 = false ∧ 1024 < x.2.2.2.1.length then ([], 32) else docE (acc ++ saysT x x.2.2.2.1) r
def headL (t : UInt64) (ev : Bs) : Bs := [116, 61] ++ decL (UInt64.toNat t) ++ [32, 101, 118, 61] ++ ev
/-- a line's text, and an error -/
def encL (t : UInt64) (ev : Bs) (xs : List RPair) : Bs × Int :=
  if wordB ev = false then ([], 31) else if 16 < xs.length then ([], 2) else if keysF [] xs = false then ([], 31) else docE (headL t ev) xs
theorem says_len (x : RPair) (t : Bs) : 2 ≤ (saysT x t).length ∧ (saysT x t).length ≤ x.1.length + 4 * t.length + 24 ∧ (x.2.1 = false → t.length + 2 ≤ (saysT x t).length) := by
  have h1 := quo_len t
  have h2 := dec_len _ (UInt64.toNat_lt x.2.2.1)
  unfold saysT
  cases x.2.1 <;> simp only [List.length_append, List.length_cons, List.length_nil, if_true, Bool.false_eq_true, if_false] <;> refine ⟨by omega, by omega, fun h => ?_⟩
  · omega
  · cases h
theorem doc_long : ∀ {xs : List RPair} {acc : Bs}, 1024 < acc.length → docE acc xs = ([], 32)
  | [], acc, h => if_pos h
  | x :: r, acc, h => by
    rw [docE]
    split
    · rfl
    · exact doc_long (by rw [List.length_append]; omega)
theorem enc_eq : ∀ {xs : List RPair} {acc : Bs}, acc.length ≤ 1024 → progE acc xs = docE acc xs
  | [], acc, h => by rw [progE, docE, if_neg (by omega)]
  | x :: r, acc, h => by
    rw [progE, docE]
    by_cases hl : x.2.1 = false ∧ 1024 < x.2.2.2.1.length
    · have := (says_len x (x.2.2.2.1.take 1025)).2.2 hl.1
      rw [if_pos hl, if_pos]
      rw [List.length_append]
      rw [List.length_take] at this
      omega
    · rw [if_neg hl]
      have he : saysT x (x.2.2.2.1.take 1025) = saysT x x.2.2.2.1 := by
        unfold saysT
        cases hb : x.2.1
        · rw [List.take_of_length_le (by have : ¬ 1024 < x.2.2.2.1.length := fun g => hl ⟨hb, g⟩
                                         omega)]
        · rfl
      rw [he]
      by_cases hg : 1024 < (acc ++ saysT x x.2.2.2.1).length
      · rw [if_pos hg, doc_long hg]
      · rw [if_neg hg, enc_eq (by omega)]
theorem head_len (t : UInt64) (ev : Bs) : (headL t ev).length ≤ 26 + ev.length ∧ 7 ≤ (headL t ev).length := by
  have := dec_len _ (UInt64.toNat_lt t)
  unfold headL
  simp only [List.length_append, List.length_cons, List.length_nil]
  omega
theorem keys_go {xs : List RPair} {i : Nat} {x : RPair} (h : keysF [] xs = keysF (xs.take i) (xs.drop i)) (hx : xs[i]? = some x) (g : keyB x.1 (xs.take i) = true) : keysF [] xs = keysF (xs.take (i + 1)) (xs.drop (i + 1)) := by
  obtain ⟨hl, hg⟩ := List.getElem?_eq_some_iff.1 hx
  rw [h, List.drop_eq_getElem_cons hl, hg, keysF, g, Bool.true_and, List.take_add_one, hx]; rfl
theorem keys_bad {xs : List RPair} {i : Nat} {x : RPair} (h : keysF [] xs = keysF (xs.take i) (xs.drop i)) (hx : xs[i]? = some x) (g : ¬ keyB x.1 (xs.take i) = true) : keysF [] xs = false := by
  obtain ⟨hl, hg⟩ := List.getElem?_eq_some_iff.1 hx
  rw [h, List.drop_eq_getElem_cons hl, hg, keysF, Bool.eq_false_iff.2 g, Bool.false_and]
theorem keys_end {xs : List RPair} {i : Nat} (h : keysF [] xs = keysF (xs.take i) (xs.drop i)) (hi : i = xs.length) : keysF [] xs = true := by rw [h, hi, List.drop_length, keysF]
theorem keys_word : ∀ {xs s : List RPair}, keysF s xs = true → ∀ {i : Nat} {x : RPair}, xs[i]? = some x → x.1.length ≤ 32
  | [], _, _, i, x, hx => by simp at hx
  | y :: r, s, h, 0, x, hx => by
    rw [keysF, Bool.and_eq_true] at h
    simp at hx
    subst hx
    exact key_w h.1
  | y :: r, s, h, i + 1, x, hx => by
    rw [keysF, Bool.and_eq_true] at h
    exact keys_word h.2 (by simpa using hx)
theorem prog_go {a0 acc : Bs} {xs : List RPair} {i : Nat} {x : RPair} {b : Bs} (h : progE a0 xs = progE acc (xs.drop i)) (hx : xs[i]? = some x) (hb : b = acc ++ saysT x (x.2.2.2.1.take 1025)) (g : ¬ 1024 < b.length) : progE a0 xs = progE b (xs.drop (i + 1)) := by
  obtain ⟨hl, hg⟩ := List.getElem?_eq_some_iff.1 hx
  subst hb
  rw [h, List.drop_eq_getElem_cons hl, hg, progE, if_neg g]
theorem prog_long {a0 acc : Bs} {xs : List RPair} {i : Nat} {x : RPair} {b : Bs} (h : progE a0 xs = progE acc (xs.drop i)) (hx : xs[i]? = some x) (hb : b = acc ++ saysT x (x.2.2.2.1.take 1025)) (g : 1024 < b.length) : progE a0 xs = ([], 32) := by
  obtain ⟨hl, hg⟩ := List.getElem?_eq_some_iff.1 hx
  subst hb
  rw [h, List.drop_eq_getElem_cons hl, hg, progE, if_pos g]
theorem enc_ok {t : UInt64} {ev : Bs} {xs : List RPair} (h1 : wordB ev = true) (h2 : xs.length ≤ 16) (h3 : keysF [] xs = true) : encL t ev xs = progE (headL t ev) xs := by
  have h4 := head_len t ev
  have h5 := word_len h1
  rw [encL, if_neg (by rw [h1]; decide), if_neg (by omega), if_neg (by rw [h3]; decide), enc_eq (by omega)]
theorem enc_31 {t : UInt64} {ev : Bs} {xs : List RPair} (h1 : ¬ wordB ev = true) : encL t ev xs = ([], 31) := by rw [encL, if_pos (Bool.eq_false_iff.2 h1)]
theorem enc_2 {t : UInt64} {ev : Bs} {xs : List RPair} (h1 : wordB ev = true) (h2 : 16 < xs.length) : encL t ev xs = ([], 2) := by rw [encL, if_neg (by rw [h1]; decide), if_pos h2]
theorem enc_k {t : UInt64} {ev : Bs} {xs : List RPair} (h1 : wordB ev = true) (h2 : xs.length ≤ 16) (h3 : keysF [] xs = false) : encL t ev xs = ([], 31) := by rw [encL, if_neg (by rw [h1]; decide), if_neg (by omega), if_pos h3]
theorem sv_len_1 {x : RPair} {acc k t : Bs} {n : UInt64} (hk : x.1 = k) (hn : x.2.2.1 = n) (h : x.2.1 = true) : acc ++ ([32] ++ k ++ [61]) ++ decL (UInt64.toNat n) = acc ++ saysT x t := by subst hk hn; rw [saysT, if_pos h]; simp
theorem sv_len_2 {x : RPair} {acc k t : Bs} (hk : x.1 = k) (h : ¬ x.2.1 = true) : acc ++ ([32] ++ k ++ [61]) ++ quoL t = acc ++ saysT x t := by subst hk; rw [saysT, if_neg h]; simp

theorem enc_go (w : World) (t : UInt64) (ev : Bs) (hev : List.length ev ≤ 140737488351232) (al : Option Addr) (cl : Nat) (xs : List RPair) (il : InS fPair 48 (fun y : RPair => ((List.length y.1 ≤ 140737488351232) ∧ (True ∧ (True ∧ ((List.length y.2.2.2.1 ≤ 140737488351232) ∧ (True)))))) w [] al cl xs) (gt : InT w []) : Calls Tryd.prog 8 #[.agg #[uv64 t, .string (bstr ev), .slice al (List.length xs) cl]] w fun e w' => e = .returned (.tuple #[.string (bstr (encL t ev xs).1), .int .i64 (encL t ev xs).2]) ∧ Ev w [] w' [] := by
 refine d_0 [(0, .agg #[uv64 t, .string (bstr ev), .slice al (List.length xs) cl])] 76 Go.Proofs.Tryd.func8 Go.Proofs.Tryd.ntmps8 (Heap.nil _) fun act0 En0 Hv0 => ?_
 refine wp_seq ?_
 refine region_from ?_
 refine f_o ?_
 refine m_m 25 [uv64 t, .string (bstr ev), .slice al (List.length xs) cl] En0 Hv0 fun ac2 wo3 bk1 En4 Hv5 => ?_
 refine d_e [1,2,3] [] En4 fun ac6 En7 => ?_
 refine then_normal ?_
 refine wp_seq ?_
 refine wp_block ?_
 refine wp_seq ?_
 refine region_from ?_
 refine d_k [1,2,3,11] [] 1 En7 fun ac8 En9 => ?_
 refine f_o ?_
 refine m_l 0 En9 Hv5 fun ac10 En11 => ?_
 refine f_o ?_
 refine c_p En11 Hv5 (word_go _ ev (by first | assumption | omega)) fun ac16 wo13 En17 Hv18 => ?_
 refine d_e [1,2,3,10] [] En17 fun ac19 En20 => ?_
 refine then_normal ?_
 refine cond_at En20 (t := !(wordB ev)) (by kernel_rfl) (fun hc21 => ?_) (fun hc21 => ?_)
 ·
  replace hc21 : ¬ (wordB ev = true) := by simpa using hc21
  refine wp_seq ?_
  refine d_r [1,2,3] [] En20 fun ac22 En23 => ?_
  refine then_normal ?_
  refine wp_ret ?_
  refine block_ret ?_
  refine then_ret ?_
  refine d_ret2 (t := 2) (u := 3) (v := .string (bstr [])) (x := .int .i64 31) En23 (by kernel_rfl) (by kernel_rfl) (by kernel_rfl) ?_
  rw [show encL t ev xs = ([], 31) from enc_31 (by assumption)]
  exact ⟨rfl, Hv18.pick [] (by kernel_rfl) (by decide)⟩
 ·
  replace hc21 : wordB ev = true := by simpa using hc21
  refine wp_seq ?_
  refine region_from ?_
  refine d_k [1,2,3,16] [] 1 En20 fun ac24 En25 => ?_
  refine f_o ?_
  refine m_l 0 En25 Hv18 fun ac26 En27 => ?_
  refine d_e [1,2,3,15] [] En27 fun ac28 En29 => ?_
  refine then_normal ?_
  refine c_d (((List.length xs : Nat) : Int) > (16 : Int)) En29 (fun hc30 => ?_) (fun hc30 => ?_)
  ·
   refine wp_seq ?_
   refine d_r [1,2,3] [] En29 fun ac31 En32 => ?_
   refine then_normal ?_
   refine wp_ret ?_
   refine block_ret ?_
   refine then_ret ?_
   refine d_ret2 (t := 2) (u := 3) (v := .string (bstr [])) (x := .int .i64 2) En32 (by kernel_rfl) (by kernel_rfl) (by kernel_rfl) ?_
   rw [show encL t ev xs = ([], 2) from enc_2 (by assumption) (by omega)]
   exact ⟨rfl, Hv18.pick [] (by kernel_rfl) (by decide)⟩
  ·
   refine wp_skip ?_
   refine block_normal ?_
   refine then_normal ?_
   refine wp_seq ?_
   refine wp_seq ?_
   refine region_from ?_
   refine d_k [1,2,3,20] [] 1 En29 fun ac33 En34 => ?_
   refine f_o ?_
   refine m_l 0 En34 Hv18 fun ac35 En36 => ?_
   refine d_e [1,2,3,21,22,23] [] En36 fun ac37 En38 => ?_
   refine then_normal ?_
   refine wp_block ?_
   refine loop_m (fun ms39 ac wo => ∃ (i : Nat), ms39 = (List.length xs - i : Nat) ∧ Env ac 76 [(1, pt bk1), (21, .slice al (List.length xs) cl), (22, .int .i64 ((List.length xs : Nat) : Int)), (23, ni i)] ∧ Ev w [] wo [.box bk1 [uv64 t, .string (bstr ev), .slice al (List.length xs) cl] 25] ∧ (i ≤ List.length xs) ∧ (keysF [] xs = keysF (List.take i xs) (List.drop i xs))) ⟨_, 0, rfl, En38.sub (by kernel_rfl), Hv18.pick [0] (by kernel_rfl) (by decide), (Nat.zero_le _), (by simp)⟩ ?_
   rintro mm45 ac41 wo42 ⟨i, rfl, En43, Hv44, hil, hks⟩
   refine wp_seq ?_
   have hzl := il.small
   refine d_r [1,21,22,23,24] [] En43 fun ac46 En47 => ?_
   refine then_normal ?_
   refine wp_seq ?_
   refine c_d (((i : Nat) : Int) < ((List.length xs : Nat) : Int)) En47 (fun hc48 => ?_) (fun hc48 => ?_)
   ·
    refine wp_skip ?_
    refine then_normal ?_
    refine wp_seq ?_
    refine wp_block ?_
    refine wp_seq ?_
    have hb51 : i < List.length xs := (by omega)
    obtain ⟨adr49, had50⟩ := some_of il.nz hb51
    have hb52 : i < List.length xs := by omega
    obtain ⟨⟨x54a, x54b, x54c, x54d, _⟩, hx53⟩ : ∃ x, (xs)[i]? = some x := ⟨_, List.getElem?_eq_getElem hb52⟩
    obtain ⟨s_x54a, _, _, s_x54d, _⟩ := il.each _ (List.mem_of_getElem? hx53)
    replace s_x54a : (List.length x54a ≤ 140737488351232) := s_x54a
    replace s_x54d : (List.length x54d ≤ 140737488351232) := s_x54d
    refine region_from ?_
    refine d_k [1,21,22,23,25] [] 1 En47 fun ac55 En56 => ?_
    refine f_o ?_
    refine q_v (x := Instr.indexAt 23 (.slice al (List.length xs) cl) (ni i)) (v := .pointer (some (Addr.add adr49 (i * 4)))) En56 (Go.Dbr.run_indexsl (e := 35) (sz := 4) (j := i) (jo := i * 4) had50 (by kernel_rfl) (by kernel_rfl) (by omega) hb51 rfl _) fun ac57 En58 => ?_
    refine f_o ?_
    refine op_loadaggat (d := some 27) (t := 35) (ad := adr49) (ao := al) (ys := List.flatMap fPair xs) (o := i * 4) (m := 4) (xs := [.string (bstr x54a), .bool x54b, uv64 x54c, .string (bstr x54d)]) En58 (by kernel_rfl) rfl (il.ro.ev Hv44).reads had50 (fun j hj => ?_) rfl (by kernel_rfl) (by kernel_rfl) ?_
    ·
     exact flat_sub (sz := 4) (off := 0) (m := 4) (fun _ _ => rfl) hx53 (by decide) rfl j hj
    intro ac59 En60
    refine f_o ?_
    refine m_z 35 [.string (bstr []), .bool false, .int .u64 0, .string (bstr [])] En60 Hv44 fun ac62 wo63 bk61 En64 Hv65 => ?_
    refine d_k [1,4,5,21,22,23,27] [] 5 En64 fun ac66 En67 => ?_
    refine f_o ?_
    refine m_g 1 0 4 [.string (bstr x54a), .bool x54b, uv64 x54c, .string (bstr x54d)] [.string (bstr x54a), .bool x54b, uv64 x54c, .string (bstr x54d)] [.box bk1 [uv64 t, .string (bstr ev), .slice al (List.length xs) cl] 25, .box bk61 [.string (bstr x54a), .bool x54b, uv64 x54c, .string (bstr x54d)] 35] En67 Hv65 rfl rfl (by simp) (one_all (by kernel_rfl)) rfl rfl fun ac68 wo69 En70 Hv71 => ?_
    refine f_e ?_
    refine then_normal ?_
    refine wp_seq ?_
    have hcl := il.cap
    refine r_c (fun ac wo => Env ac 76 [(1, pt bk1), (5, pt bk61), (21, .slice al (List.length xs) cl), (22, .int .i64 ((List.length xs : Nat) : Int)), (23, ni i), (35, .bool (!(keyB x54a (List.take i xs))))] ∧ Ev w [] wo [.box bk1 [uv64 t, .string (bstr ev), .slice al (List.length xs) cl] 25, .box bk61 [.string (bstr x54a), .bool x54b, uv64 x54c, .string (bstr x54d)] 35]) ?_ ?_
    ·
     refine s_g0 [(1, pt bk1), (4, ni i), (5, pt bk61), (21, .slice al (List.length xs) cl), (22, .int .i64 ((List.length xs : Nat) : Int)), (23, ni i)] [0,1,2,3,4,5,6,7] [(28, pt bk61), (29, .string (bstr x54a)), (30, .pointer (some ⟨bk1, 2, none⟩)), (31, .slice al (List.length xs) cl), (32, ni i), (33, .slice al i cl), (34, .bool (keyB x54a (List.take i xs))), (35, .bool (!(keyB x54a (List.take i xs))))] 0 [(1, pt bk1), (5, pt bk61), (21, .slice al (List.length xs) cl), (22, .int .i64 ((List.length xs : Nat) : Int)), (23, ni i), (35, .bool (!(keyB x54a (List.take i xs))))] (En70.sb) (Hv71.trans (Ev.drew Hv71.heap)) ?_ fun ac102 wo103 En104 Hv105 => ?_
     ·
      refine s_p [] ?_
      refine s_l 1 ?_
      refine s_p [] ?_
      refine s_l 0 ?_
      refine s_p [] ?_
      refine s_c (fun Mx82 ac83 wo84 En85 Hv86 => ?_) ?_
      ·
       refine op_slice0 (d := some 33) (t := 23) (e := 35) (sz := 4) (len := List.length xs) (cap := cl) (hi := i) (ao := al) (lov := none) (hiv := (some (ni i))) En85 (by kernel_rfl) (by kernel_rfl) (by kernel_rfl) (by omega) (.inl ⟨rfl, rfl⟩) (.inr ⟨.i64, rfl⟩) ?_
       intro ac87 En88
       exact s_e En88 Hv86
      refine s_c (fun Mx89 ac90 wo91 En92 Hv93 => ?_) ?_
      ·
       refine c_p En92 Hv93 (keyed_go _ x54a (by first | assumption | omega) i al cl (List.take i xs) ((il.go Hv93 [] (by kernel_rfl) (fun _ h => ⟨h.1, h.2.1, h.2.2.1, h.2.2.2.1, h.2.2.2.2⟩)).take i) (by first | rfl | (rw [List.length_take]; omega))) fun ac98 wo99 En100 Hv101 => ?_
       exact s_e En100 Hv101
      refine s_p [] ?_
      exact s_n
     exact a_e ⟨En104.sub (by kernel_rfl), Hv105.pick [0, 1] (by kernel_rfl) (by decide)⟩
    rintro ac106 wo107 ⟨En108, Hv109⟩
    refine then_normal ?_
    refine cond_at En108 (t := !(keyB x54a (List.take i xs))) (by kernel_rfl) (fun hc110 => ?_) (fun hc110 => ?_)
    ·
     replace hc110 : ¬ (keyB x54a (List.take i xs) = true) := by simpa using hc110
     refine wp_seq ?_
     refine d_r [1,2,3,5,21,22,23] [] En108 fun ac111 En112 => ?_
     refine then_normal ?_
     refine wp_ret ?_
     refine block_ret ?_
     refine then_ret ?_
     refine then_ret ?_
     refine block_ret ?_
     refine then_ret ?_
     refine d_ret2 (t := 2) (u := 3) (v := .string (bstr [])) (x := .int .i64 31) En112 (by kernel_rfl) (by kernel_rfl) (by kernel_rfl) ?_
     rw [show encL t ev xs = ([], 31) from enc_k (by assumption) (by omega) (keys_bad hks hx53 (by assumption))]
     exact ⟨rfl, Hv109.pick [] (by kernel_rfl) (by decide)⟩
    ·
     replace hc110 : keyB x54a (List.take i xs) = true := by simpa using hc110
     refine wp_skip ?_
     refine block_normal ?_
     refine then_normal ?_
     refine d_r [1,5,21,22,23] [(0, g_n (w_a i 1))] En108 fun ac113 En114 => ?_
     refine then_normal ?_
     refine ⟨_, ⟨i + 1, rfl, En114.sub (by kernel_rfl), Hv109.pick [0] (by kernel_rfl) (by decide), (by omega), (keys_go hks hx53 (by assumption))⟩, ?_⟩
     omega
   ·
    refine wp_exit ?_
    refine then_exit ?_
    refine then_exit ?_
    refine block_exit ?_
    refine then_normal ?_
    refine wp_seq ?_
    have hK := keys_end hks (by omega)
    have hwe : wordB ev = true := by assumption
    have hwl := word_len hwe
    have hdt := dec_len _ (UInt64.toNat_lt t)
    refine region_from ?_
    refine f_o ?_
    refine m_z 61 [.pointer none, .slice none 0 0] En47 Hv44 fun ac116 wo117 bk115 En118 Hv119 => ?_
    refine f_e ?_
    refine then_normal ?_
    refine wp_seq ?_
    refine d_r [1,6,7,21,22,23] [] En118 fun ac120 En121 => ?_
    refine then_normal ?_
    refine wp_seq ?_
    refine r_c (fun ac wo => ∃ (ab171 : _) (cb172 : _), Env ac 76 [(1, pt bk1), (6, pt bk115), (7, .func (.func 20) #[pt bk115] #[]), (21, .slice al (List.length xs) cl), (22, .int .i64 ((List.length xs : Nat) : Int)), (23, ni i)] ∧ Ev w [] wo [.box bk115 [bp true bk115, .slice ab171 (List.length ([] ++ ((([116, 61] ++ (decL (UInt64.toNat t))) ++ [32, 101, 118, 61]) ++ ev))) cb172] 61, .vec ab171 cb172 1 (bys ([] ++ ((([116, 61] ++ (decL (UInt64.toNat t))) ++ [32, 101, 118, 61]) ++ ev))) 5, .box bk1 [uv64 t, .string (bstr ev), .slice al (List.length xs) cl] 25]) ?_ ?_
    ·
     refine s_g0 [(1, pt bk1), (6, pt bk115), (7, .func (.func 20) #[pt bk115] #[]), (21, .slice al (List.length xs) cl), (22, .int .i64 ((List.length xs : Nat) : Int)), (23, ni i)] [0,1,2,3,4,5,6,7,8] [(38, .func (.func 20) #[pt bk115] #[]), (39, pt bk1), (40, uv64 t), (41, .string (bstr (decL (UInt64.toNat t)))), (42, .string (bstr ([116, 61] ++ (decL (UInt64.toNat t))))), (43, .string (bstr (([116, 61] ++ (decL (UInt64.toNat t))) ++ [32, 101, 118, 61]))), (44, .pointer (some ⟨bk1, 1, none⟩)), (45, .string (bstr ev)), (46, .string (bstr ((([116, 61] ++ (decL (UInt64.toNat t))) ++ [32, 101, 118, 61]) ++ ev)))] 1 [(1, pt bk1), (6, pt bk115), (7, .func (.func 20) #[pt bk115] #[]), (21, .slice al (List.length xs) cl), (22, .int .i64 ((List.length xs : Nat) : Int)), (23, ni i), (38, .func (.func 20) #[pt bk115] #[]), (46, .string (bstr ((([116, 61] ++ (decL (UInt64.toNat t))) ++ [32, 101, 118, 61]) ++ ev)))] (En121.sb) (Hv119.trans (Ev.drew Hv119.heap)) ?_ fun ac166 wo167 En168 Hv169 => ?_
     ·
      refine s_p [] ?_
      refine s_p [] ?_
      refine s_l 0 ?_
      refine s_c (fun Mx127 ac128 wo129 En130 Hv131 => ?_) ?_
      ·
       refine c_p En130 Hv131 (fu_go _ t ((gt.ev Hv131).nil)) fun ac136 wo137 En138 Hv139 => ?_
       exact s_e En138 Hv139
      refine s_c (fun Mx140 ac141 wo142 En143 Hv144 => ?_) ?_
      ·
       refine q_v (x := Op.stringOp .add (bstr [116, 61]) (bstr (decL (UInt64.toNat t)))) (v := .string (bstr ([116, 61] ++ (decL (UInt64.toNat t))))) En143 (Go.Dbr.run_add_str [116, 61] (decL (UInt64.toNat t)) (by simp only [List.length_append, List.length_cons, List.length_nil]; omega) _) fun ac145 En146 => ?_
       exact s_e En146 Hv144
      refine s_c (fun Mx147 ac148 wo149 En150 Hv151 => ?_) ?_
      ·
       refine q_v (x := Op.stringOp .add (bstr ([116, 61] ++ (decL (UInt64.toNat t)))) (bstr [32, 101, 118, 61])) (v := .string (bstr (([116, 61] ++ (decL (UInt64.toNat t))) ++ [32, 101, 118, 61]))) En150 (Go.Dbr.run_add_str ([116, 61] ++ (decL (UInt64.toNat t))) [32, 101, 118, 61] (by simp only [List.length_append, List.length_cons, List.length_nil]; omega) _) fun ac152 En153 => ?_
       exact s_e En153 Hv151
      refine s_p [] ?_
      refine s_l 0 ?_
      refine s_c (fun Mx159 ac160 wo161 En162 Hv163 => ?_) ?_
      ·
       refine q_v (x := Op.stringOp .add (bstr (([116, 61] ++ (decL (UInt64.toNat t))) ++ [32, 101, 118, 61])) (bstr ev)) (v := .string (bstr ((([116, 61] ++ (decL (UInt64.toNat t))) ++ [32, 101, 118, 61]) ++ ev))) En162 (Go.Dbr.run_add_str (([116, 61] ++ (decL (UInt64.toNat t))) ++ [32, 101, 118, 61]) ev (by simp only [List.length_append, List.length_cons, List.length_nil]; omega) _) fun ac164 En165 => ?_
       exact s_e En165 Hv163
      exact s_n
     refine q_u 9 ?_
     have Hv180 : Ev w [] wo167 [.box bk1 [uv64 t, .string (bstr ev), .slice al (List.length xs) cl] 25, .box bk115 [.pointer none, .slice none 0 0] 61, .vec none 0 1 (bys []) 5] := Ev.nil (sz := 1) (T := 5) Hv169
     refine c_l [1,2] (M := [.box bk115 [.pointer none, .slice none 0 0] 61, .vec none 0 1 (bys []) 5]) En168 Hv180 (fun hM183 => write_go _ false bk115 none 0 [] ((([116, 61] ++ (decL (UInt64.toNat t))) ++ [32, 101, 118, 61]) ++ ev) (by simp only [List.length_append, List.length_cons, List.length_nil]; omega) hM183) ?_
     rintro _ wo184 ⟨ab181, cb182, rfl, he185⟩
     refine ⟨_, _, [.box bk115 [bp true bk115, .slice ab181 (List.length ([] ++ ((([116, 61] ++ (decL (UInt64.toNat t))) ++ [32, 101, 118, 61]) ++ ev))) cb182] 61, .vec ab181 cb182 1 (bys ([] ++ ((([116, 61] ++ (decL (UInt64.toNat t))) ++ [32, 101, 118, 61]) ++ ev))) 5, .box bk1 [uv64 t, .string (bstr ev), .slice al (List.length xs) cl] 25], rfl, he185, by kernel_rfl, fun ac187 En188 Hv189 => ?_⟩
     exact a_e ⟨ab181, cb182, En188.sub (by kernel_rfl), Hv189.pick [0, 1, 2] (by kernel_rfl) (by decide)⟩
    rintro ac190 wo191 ⟨ab171, cb172, En192, Hv193⟩
    refine then_normal ?_
    refine wp_seq ?_
    refine wp_seq ?_
    refine region_from ?_
    refine d_k [1,6,7,21,22,23,48] [] 1 En192 fun ac194 En195 => ?_
    refine f_o ?_
    refine m_l 2 En195 Hv193 fun ac196 En197 => ?_
    refine d_e [1,6,7,21,22,23,49,50,51] [] En197 fun ac198 En199 => ?_
    refine then_normal ?_
    refine wp_block ?_
    refine loop_m (fun ms200 ac wo => ∃ (j : Nat) (a2 : Option Addr) (c2 : Nat) (m : Bs), ms200 = (List.length xs - j : Nat) ∧ Env ac 76 [(1, pt bk1), (6, pt bk115), (7, .func (.func 20) #[pt bk115] #[]), (21, .slice al (List.length xs) cl), (22, .int .i64 ((List.length xs : Nat) : Int)), (23, ni i), (49, .slice al (List.length xs) cl), (50, .int .i64 ((List.length xs : Nat) : Int)), (51, ni j)] ∧ Ev w [] wo [.box bk115 [bp true bk115, .slice a2 (List.length m) c2] 61, .vec a2 c2 1 (bys m) 5, .box bk1 [uv64 t, .string (bstr ev), .slice al (List.length xs) cl] 25] ∧ (j ≤ List.length xs) ∧ (progE (headL t ev) xs = progE m (List.drop j xs)) ∧ (List.length m ≤ 1024) ∧ (1 ≤ List.length m)) ⟨_, 0, ab171, cb172, ([] ++ ((([116, 61] ++ (decL (UInt64.toNat t))) ++ [32, 101, 118, 61]) ++ ev)), rfl, En199.sub (by kernel_rfl), Hv193.pick [0, 1, 2] (by kernel_rfl) (by decide), (Nat.zero_le _), (by rw [List.nil_append, List.drop_zero]; rfl), (by rw [List.nil_append]; have := head_len t ev; exact (show (headL t ev).length ≤ 1024 by omega)), (by rw [List.nil_append]; have := head_len t ev; exact (show 1 ≤ (headL t ev).length by omega))⟩ ?_
    rintro mm206 ac202 wo203 ⟨j, a2, c2, m, rfl, En204, Hv205, hjl, hpg, hm1, hm0⟩
    refine wp_seq ?_
    refine d_r [1,6,7,21,22,23,49,50,51,52] [] En204 fun ac207 En208 => ?_
    refine then_normal ?_
    refine wp_seq ?_
    refine c_d (((j : Nat) : Int) < ((List.length xs : Nat) : Int)) En208 (fun hc209 => ?_) (fun hc209 => ?_)
    ·
     refine wp_skip ?_
     refine then_normal ?_
     refine wp_seq ?_
     refine wp_block ?_
     refine wp_seq ?_
     have hb212 : j < List.length xs := (by omega)
     obtain ⟨adr210, had211⟩ := some_of il.nz hb212
     have hb213 : j < List.length xs := by omega
     obtain ⟨⟨x215a, x215b, x215c, x215d, _⟩, hx214⟩ : ∃ x, (xs)[j]? = some x := ⟨_, List.getElem?_eq_getElem hb213⟩
     obtain ⟨s_x215a, _, _, s_x215d, _⟩ := il.each _ (List.mem_of_getElem? hx214)
     replace s_x215a : (List.length x215a ≤ 140737488351232) := s_x215a
     replace s_x215d : (List.length x215d ≤ 140737488351232) := s_x215d
     refine region_from ?_
     refine f_o ?_
     refine q_v (x := Instr.indexAt 23 (.slice al (List.length xs) cl) (ni j)) (v := .pointer (some (Addr.add adr210 (j * 4)))) En208 (Go.Dbr.run_indexsl (e := 35) (sz := 4) (j := j) (jo := j * 4) had211 (by kernel_rfl) (by kernel_rfl) (by omega) hb212 rfl _) fun ac216 En217 => ?_
     refine f_o ?_
     refine op_loadaggat (d := some 54) (t := 35) (ad := adr210) (ao := al) (ys := List.flatMap fPair xs) (o := j * 4) (m := 4) (xs := [.string (bstr x215a), .bool x215b, uv64 x215c, .string (bstr x215d)]) En217 (by kernel_rfl) rfl (il.ro.ev Hv205).reads had211 (fun j hj => ?_) rfl (by kernel_rfl) (by kernel_rfl) ?_
     ·
      exact flat_sub (sz := 4) (off := 0) (m := 4) (fun _ _ => rfl) hx214 (by decide) rfl j hj
     intro ac218 En219
     refine f_o ?_
     refine m_z 35 [.string (bstr []), .bool false, .int .u64 0, .string (bstr [])] En219 Hv205 fun ac221 wo222 bk220 En223 Hv224 => ?_
     refine f_o ?_
     refine m_g 3 0 4 [.string (bstr x215a), .bool x215b, uv64 x215c, .string (bstr x215d)] [.string (bstr x215a), .bool x215b, uv64 x215c, .string (bstr x215d)] [.box bk115 [bp true bk115, .slice a2 (List.length m) c2] 61, .vec a2 c2 1 (bys m) 5, .box bk1 [uv64 t, .string (bstr ev), .slice al (List.length xs) cl] 25, .box bk220 [.string (bstr x215a), .bool x215b, uv64 x215c, .string (bstr x215d)] 35] En223 Hv224 rfl rfl (by simp) (one_all (by kernel_rfl)) rfl rfl fun ac225 wo226 En227 Hv228 => ?_
     refine f_e ?_
     refine then_normal ?_
     refine wp_seq ?_
     have hk32 : List.length x215a ≤ 32 := keys_word hK hx214
     have hnl := dec_len _ (UInt64.toNat_lt x215c)
     refine region_from ?_
     refine d_k [1,6,7,9,21,22,23,49,50,51,55,56] [] 2 En227 fun ac229 En230 => ?_
     refine f_o ?_
     refine m_l 3 En230 Hv228 fun ac231 En232 => ?_
     refine f_o ?_
     refine q_v (x := Op.stringOp .add (bstr [32]) (bstr x215a)) (v := .string (bstr ([32] ++ x215a))) En232 (Go.Dbr.run_add_str [32] x215a (by simp only [List.length_append, List.length_cons, List.length_nil]; omega) _) fun ac233 En234 => ?_
     refine f_o ?_
     refine q_v (x := Op.stringOp .add (bstr ([32] ++ x215a)) (bstr [61])) (v := .string (bstr (([32] ++ x215a) ++ [61]))) En234 (Go.Dbr.run_add_str ([32] ++ x215a) [61] (by simp only [List.length_append, List.length_cons, List.length_nil]; omega) _) fun ac235 En236 => ?_
     refine f_o ?_
     refine c_l [0,1] (M := [.box bk115 [bp true bk115, .slice a2 (List.length m) c2] 61, .vec a2 c2 1 (bys m) 5]) En236 Hv228 (fun hM239 => write_go _ true bk115 a2 c2 m (([32] ++ x215a) ++ [61]) (by simp only [List.length_append, List.length_cons, List.length_nil]; omega) hM239) ?_
     rintro _ wo240 ⟨ab237, cb238, rfl, he241⟩
     refine ⟨_, _, [.box bk115 [bp true bk115, .slice ab237 (List.length (m ++ (([32] ++ x215a) ++ [61]))) cb238] 61, .vec ab237 cb238 1 (bys (m ++ (([32] ++ x215a) ++ [61]))) 5, .box bk1 [uv64 t, .string (bstr ev), .slice al (List.length xs) cl] 25, .box bk220 [.string (bstr x215a), .bool x215b, uv64 x215c, .string (bstr x215d)] 35], rfl, he241, by kernel_rfl, fun ac243 En244 Hv245 => ?_⟩
     refine f_e ?_
     refine then_normal ?_
     refine wp_seq ?_
     refine wp_seq ?_
     refine region_from ?_
     refine d_k [1,6,7,9,21,22,23,49,50,51,61] [] 1 En244 fun ac246 En247 => ?_
     refine f_o ?_
     refine m_l 3 En247 Hv245 fun ac248 En249 => ?_
     refine f_e ?_
     refine then_normal ?_
     refine cond_at En249 (t := x215b) (by kernel_rfl) (fun hc250 => ?_) (fun hc250 => ?_)
     ·
      replace hc250 : x215b = true := hc250
      refine region_from ?_
      refine d_k [1,6,7,9,21,22,23,49,50,51,63,64] [] 2 En249 fun ac251 En252 => ?_
      refine f_o ?_
      refine m_l 3 En252 Hv245 fun ac253 En254 => ?_
      refine f_o ?_
      refine c_p En254 Hv245 (fu_go _ x215c ((gt.ev Hv245).nil)) fun ac259 wo256 En260 Hv261 => ?_
      refine f_o ?_
      refine c_l [0,1] (M := [.box bk115 [bp true bk115, .slice ab237 (List.length (m ++ (([32] ++ x215a) ++ [61]))) cb238] 61, .vec ab237 cb238 1 (bys (m ++ (([32] ++ x215a) ++ [61]))) 5]) En260 Hv261 (fun hM264 => write_go _ true bk115 ab237 cb238 (m ++ (([32] ++ x215a) ++ [61])) (decL (UInt64.toNat x215c)) (by simp only [List.length_append, List.length_cons, List.length_nil]; omega) hM264) ?_
      rintro _ wo265 ⟨ab262, cb263, rfl, he266⟩
      refine ⟨_, _, [.box bk115 [bp true bk115, .slice ab262 (List.length ((m ++ (([32] ++ x215a) ++ [61])) ++ (decL (UInt64.toNat x215c)))) cb263] 61, .vec ab262 cb263 1 (bys ((m ++ (([32] ++ x215a) ++ [61])) ++ (decL (UInt64.toNat x215c)))) 5, .box bk1 [uv64 t, .string (bstr ev), .slice al (List.length xs) cl] 25, .box bk220 [.string (bstr x215a), .bool x215b, uv64 x215c, .string (bstr x215d)] 35], rfl, he266, by kernel_rfl, fun ac268 En269 Hv270 => ?_⟩
      refine f_e ?_
      refine then_normal ?_
      refine wp_seq ?_
      refine region_from ?_
      refine f_o ?_
      refine c_l [0] (M := [.box bk115 [bp true bk115, .slice ab262 (List.length ((m ++ (([32] ++ x215a) ++ [61])) ++ (decL (UInt64.toNat x215c)))) cb263] 61]) En269 Hv270 (fun hM271 => blen_go _ true bk115 ab262 cb263 ((m ++ (([32] ++ x215a) ++ [61])) ++ (decL (UInt64.toNat x215c))) hM271) ?_
      rintro _ wo272 ⟨rfl, he273⟩
      refine ⟨_, _, [.box bk115 [bp true bk115, .slice ab262 (List.length ((m ++ (([32] ++ x215a) ++ [61])) ++ (decL (UInt64.toNat x215c)))) cb263] 61, .vec ab262 cb263 1 (bys ((m ++ (([32] ++ x215a) ++ [61])) ++ (decL (UInt64.toNat x215c)))) 5, .box bk1 [uv64 t, .string (bstr ev), .slice al (List.length xs) cl] 25, .box bk220 [.string (bstr x215a), .bool x215b, uv64 x215c, .string (bstr x215d)] 35], rfl, he273, by kernel_rfl, fun ac275 En276 Hv277 => ?_⟩
      refine d_e [1,6,7,9,21,22,23,49,50,51,73] [] En276 fun ac278 En279 => ?_
      refine then_normal ?_
      refine c_d (((List.length ((m ++ (([32] ++ x215a) ++ [61])) ++ (decL (UInt64.toNat x215c))) : Nat) : Int) > (1024 : Int)) En279 (fun hc280 => ?_) (fun hc280 => ?_)
      ·
       refine wp_seq ?_
       refine d_r [1,2,3,6,7,9,21,22,23,49,50,51] [] En279 fun ac281 En282 => ?_
       refine then_normal ?_
       refine wp_ret ?_
       refine block_ret ?_
       refine then_ret ?_
       refine then_ret ?_
       refine block_ret ?_
       refine then_ret ?_
       refine d_ret2 (t := 2) (u := 3) (v := .string (bstr [])) (x := .int .i64 32) En282 (by kernel_rfl) (by kernel_rfl) (by kernel_rfl) ?_
       rw [show encL t ev xs = ([], 32) from (enc_ok hwe (by omega) hK).trans (prog_long (b := ((m ++ (([32] ++ x215a) ++ [61])) ++ (decL (UInt64.toNat x215c)))) hpg hx214 (by first | exact sv_len_1 rfl rfl (by assumption) | exact sv_len_2 rfl (by assumption)) (by omega))]
       exact ⟨rfl, Hv277.pick [] (by kernel_rfl) (by decide)⟩
      ·
       refine wp_skip ?_
       refine block_normal ?_
       refine then_normal ?_
       refine d_r [1,6,7,9,21,22,23,49,50,51] [(0, g_n (w_a j 1))] En279 fun ac283 En284 => ?_
       refine then_normal ?_
       refine ⟨_, ⟨j + 1, ab262, cb263, ((m ++ (([32] ++ x215a) ++ [61])) ++ (decL (UInt64.toNat x215c))), rfl, En284.sub (by kernel_rfl), Hv277.pick [0, 1, 2] (by kernel_rfl) (by decide), (by omega), (prog_go hpg hx214 (by first | exact sv_len_1 rfl rfl (by assumption) | exact sv_len_2 rfl (by assumption)) (by omega)), (by omega), (by simp only [List.length_append, List.length_cons, List.length_nil]; omega)⟩, ?_⟩
       omega
     ·
      replace hc250 : ¬ (x215b = true) := Bool.eq_false_iff.1 hc250
      refine region_from ?_
      refine d_k [1,6,7,9,21,22,23,49,50,51,68] [] 1 En249 fun ac285 En286 => ?_
      refine f_o ?_
      refine m_l 3 En286 Hv245 fun ac287 En288 => ?_
      refine d_k [1,6,7,9,21,22,23,49,50,51,69,70] [] 3 En288 fun ac289 En290 => ?_
      refine f_o ?_
      refine c_l [0,1] (M := [.box bk115 [bp true bk115, .slice ab237 (List.length (m ++ (([32] ++ x215a) ++ [61]))) cb238] 61, .vec ab237 cb238 1 (bys (m ++ (([32] ++ x215a) ++ [61]))) 5]) En290 Hv245 (fun hM293 => quote_go _ true bk115 ab237 cb238 (m ++ (([32] ++ x215a) ++ [61])) x215d (by simp only [List.length_append, List.length_cons, List.length_nil]; omega) (by omega) hM293) ?_
      rintro _ wo294 ⟨ab291, cb292, rfl, he295⟩
      refine ⟨_, _, [.box bk115 [bp true bk115, .slice ab291 (List.length ((m ++ (([32] ++ x215a) ++ [61])) ++ quoL (List.take 1025 x215d))) cb292] 61, .vec ab291 cb292 1 (bys ((m ++ (([32] ++ x215a) ++ [61])) ++ quoL (List.take 1025 x215d))) 5, .box bk1 [uv64 t, .string (bstr ev), .slice al (List.length xs) cl] 25, .box bk220 [.string (bstr x215a), .bool x215b, uv64 x215c, .string (bstr x215d)] 35], rfl, he295, by kernel_rfl, fun ac297 En298 Hv299 => ?_⟩
      refine f_e ?_
      refine then_normal ?_
      refine wp_seq ?_
      refine region_from ?_
      refine f_o ?_
      refine c_l [0] (M := [.box bk115 [bp true bk115, .slice ab291 (List.length ((m ++ (([32] ++ x215a) ++ [61])) ++ quoL (List.take 1025 x215d))) cb292] 61]) En298 Hv299 (fun hM300 => blen_go _ true bk115 ab291 cb292 ((m ++ (([32] ++ x215a) ++ [61])) ++ quoL (List.take 1025 x215d)) hM300) ?_
      rintro _ wo301 ⟨rfl, he302⟩
      refine ⟨_, _, [.box bk115 [bp true bk115, .slice ab291 (List.length ((m ++ (([32] ++ x215a) ++ [61])) ++ quoL (List.take 1025 x215d))) cb292] 61, .vec ab291 cb292 1 (bys ((m ++ (([32] ++ x215a) ++ [61])) ++ quoL (List.take 1025 x215d))) 5, .box bk1 [uv64 t, .string (bstr ev), .slice al (List.length xs) cl] 25, .box bk220 [.string (bstr x215a), .bool x215b, uv64 x215c, .string (bstr x215d)] 35], rfl, he302, by kernel_rfl, fun ac304 En305 Hv306 => ?_⟩
      refine d_e [1,6,7,9,21,22,23,49,50,51,73] [] En305 fun ac307 En308 => ?_
      refine then_normal ?_
      refine c_d (((List.length ((m ++ (([32] ++ x215a) ++ [61])) ++ quoL (List.take 1025 x215d)) : Nat) : Int) > (1024 : Int)) En308 (fun hc309 => ?_) (fun hc309 => ?_)
      ·
       refine wp_seq ?_
       refine d_r [1,2,3,6,7,9,21,22,23,49,50,51] [] En308 fun ac310 En311 => ?_
       refine then_normal ?_
       refine wp_ret ?_
       refine block_ret ?_
       refine then_ret ?_
       refine then_ret ?_
       refine block_ret ?_
       refine then_ret ?_
       refine d_ret2 (t := 2) (u := 3) (v := .string (bstr [])) (x := .int .i64 32) En311 (by kernel_rfl) (by kernel_rfl) (by kernel_rfl) ?_
       rw [show encL t ev xs = ([], 32) from (enc_ok hwe (by omega) hK).trans (prog_long (b := ((m ++ (([32] ++ x215a) ++ [61])) ++ quoL (List.take 1025 x215d))) hpg hx214 (by first | exact sv_len_1 rfl rfl (by assumption) | exact sv_len_2 rfl (by assumption)) (by omega))]
       exact ⟨rfl, Hv306.pick [] (by kernel_rfl) (by decide)⟩
      ·
       refine wp_skip ?_
       refine block_normal ?_
       refine then_normal ?_
       refine d_r [1,6,7,9,21,22,23,49,50,51] [(0, g_n (w_a j 1))] En308 fun ac312 En313 => ?_
       refine then_normal ?_
       refine ⟨_, ⟨j + 1, ab291, cb292, ((m ++ (([32] ++ x215a) ++ [61])) ++ quoL (List.take 1025 x215d)), rfl, En313.sub (by kernel_rfl), Hv306.pick [0, 1, 2] (by kernel_rfl) (by decide), (by omega), (prog_go hpg hx214 (by first | exact sv_len_1 rfl rfl (by assumption) | exact sv_len_2 rfl (by assumption)) (by omega)), (by omega), (by simp only [List.length_append, List.length_cons, List.length_nil]; omega)⟩, ?_⟩
       omega
    ·
     refine wp_exit ?_
     refine then_exit ?_
     refine then_exit ?_
     refine block_exit ?_
     refine then_normal ?_
     refine wp_seq ?_
     refine region_from ?_
     refine f_o ?_
     refine c_l [0,1] (M := [.box bk115 [bp true bk115, .slice a2 (List.length m) c2] 61, .vec a2 c2 1 (bys m) 5]) En208 Hv205 (fun hM314 => bstr_go _ true bk115 a2 c2 m (List.length_pos_iff.1 (by omega)) (by omega) hM314) ?_
     rintro _ wo315 ⟨rfl, he316⟩
     refine ⟨_, _, [.box bk115 [bp true bk115, .slice a2 (List.length m) c2] 61, .box bk1 [uv64 t, .string (bstr ev), .slice al (List.length xs) cl] 25], rfl, he316, by kernel_rfl, fun ac318 En319 Hv320 => ?_⟩
     refine d_e [1,2,3,6,7,21,22,23,49,50,51] [] En319 fun ac321 En322 => ?_
     refine then_normal ?_
     refine wp_ret ?_
     refine d_ret2 (t := 2) (u := 3) (v := .string (bstr m)) (x := .int .i64 0) En322 (by kernel_rfl) (by kernel_rfl) (by kernel_rfl) ?_
     rw [show encL t ev xs = (m, 0) from (enc_ok hwe (by omega) hK).trans (by rw [hpg, show j = List.length xs from by omega, List.drop_length, progE])]
     exact ⟨rfl, Hv320.pick [] (by kernel_rfl) (by decide)⟩

end Go.Proofs.YtfcfgbejpcmmkaaDoor

/- Layer 3: a line is written, by the document. -/

namespace Go.Proofs.YtfcfgbejpcmmkaaDoor
open Go.Dbr
set_option maxRecDepth 100000
set_option maxHeartbeats 2000000
set_option linter.unusedVariables false
set_option linter.unusedSimpArgs false

def sayD (x : RPair) : Bs := saysT x x.2.2.2.1
theorem encd_ok {t : UInt64} {ev : Bs} {xs : List RPair} (h1 : wordB ev = true) (h2 : xs.length ≤ 16) (h3 : keysF [] xs = true) : encL t ev xs = docE (headL t ev) xs := by
  rw [encL, if_neg (by rw [h1]; decide), if_neg (by omega), if_neg (by rw [h3]; decide)]
end Go.Proofs.YtfcfgbejpcmmkaaDoor

/- Layer 3: the live question. -/

namespace Go.Proofs.YtfcfgbejpcmmkaaDoor
open Go.Dbr
set_option maxRecDepth 100000
set_option maxHeartbeats 2000000
set_option linter.unusedVariables false
set_option linter.unusedSimpArgs false

def headPs : List RPair := [(([115, 114, 99] : Bs), true, (3 : UInt64), ([] : Bs), ()), (([104, 111, 115, 116] : Bs), false, (0 : UInt64), ([97, 34, 98, 1] : Bs), ())]
def headT : Bs := [116, 61, 49, 50, 32, 101, 118, 61, 97, 99, 99, 101, 112, 116, 32, 115, 114, 99, 61, 51, 32, 104, 111, 115, 116, 61, 34, 97, 92, 34, 98, 92, 120, 48, 49, 34]
theorem head_enc : encL 12 [97, 99, 99, 101, 112, 116] headPs = (headT, 0) := by
  have h12 : decL (UInt64.toNat 12) = [49, 50] := by show Lib.decDigits 12 = _; rw [Lib.decDigits_two (by decide) (by decide)]; rfl
  have h3 : decL (UInt64.toNat 3) = [51] := by show Lib.decDigits 3 = _; rw [Lib.decDigits_one (by decide)]; rfl
  have e : headL 12 [97, 99, 99, 101, 112, 116] = [116, 61, 49, 50, 32, 101, 118, 61, 97, 99, 99, 101, 112, 116] := by rw [headL, h12]; rfl
  rw [encd_ok (by decide) (by decide) (by decide), e, headPs, docE, if_neg (by decide), docE, if_neg (by decide), docE]
  have e1 : ∀ t : Bs, saysT ((([115, 114, 99] : Bs), true, (3 : UInt64), ([] : Bs), ()) : RPair) t = [32, 115, 114, 99, 61, 51] := fun t => by rw [saysT, if_pos rfl, h3]; rfl
  rw [e1]
  decide
theorem okP_all {xs : List RPair} {n : Nat} (hn : n ≤ 140737488351232) (h : xs.all (fun y => decide (y.1.length ≤ n ∧ y.2.2.2.1.length ≤ n)) = true) : ∀ y ∈ xs, y.1.length ≤ 140737488351232 ∧ True ∧ True ∧ y.2.2.2.1.length ≤ 140737488351232 ∧ True := fun y hy => by
  have := List.all_eq_true.1 h y hy
  simp only [decide_eq_true_eq] at this
  exact ⟨by omega, trivial, trivial, by omega, trivial⟩

theorem head_go (w : World) (gt : InT w []) : Calls Tryd.prog 7 #[] w fun e w' => e = .returned (.bool true) ∧ Ev w [] w' [] := by
 refine d_0 [] 17 Go.Proofs.Tryd.func7 Go.Proofs.Tryd.ntmps7 (Heap.nil _) fun act0 En0 Hv0 => ?_
 refine d_s [0] [] En0 fun ac1 En2 => ?_
 refine wp_seq ?_
 refine region_from ?_
 refine d_k [0,4,5] [] 2 En2 fun ac3 En4 => ?_
 refine f_o ?_
 refine op_lit (d := some 6) (t := 23) (T := 35) (m := 2) (parts := #[(0, .agg #[.string (bstr [115, 114, 99]), .bool true, .int .u64 3, .string (bstr [])]), (1, .agg #[.string (bstr [104, 111, 115, 116]), .bool false, .int .u64 0, .string (bstr [97, 34, 98, 1])])]) (xs := List.flatMap fPair ([([115, 114, 99], true, (3 : UInt64), [], ()), ([104, 111, 115, 116], false, (0 : UInt64), [97, 34, 98, 1], ())] : List (RPair))) (sz := 4) En4 (by kernel_rfl) (by kernel_rfl) rfl (by decide) Hv0 ?_
 intro ac6 wo7 bk5 En8 Hv9
 refine d_k [0,7] [] 4 En8 fun ac10 En11 => ?_
 refine f_o ?_
 refine c_p En11 Hv9 (enc_go _ (12 : UInt64) [97, 99, 99, 101, 112, 116] (by decide) (some ⟨bk5, 0, none⟩) 2 ([([115, 114, 99], true, (3 : UInt64), [], ()), ([104, 111, 115, 116], false, (0 : UInt64), [97, 34, 98, 1], ())] : List (RPair)) (Hv9.heap.innS (k := 0) (f := fPair) (sz := 4) (by_ := 48) rfl (fun _ => rfl) (by decide) [] (by kernel_rfl) rfl (by decide) (okP_all (n := 32) (by decide) (by decide))) ((gt.ev Hv9).nil)) fun ac16 wo13 En17 Hv18 => ?_
 refine d_e [0,1,2] [] En17 fun ac19 En20 => ?_
 refine then_normal ?_
 refine wp_seq ?_
 refine region_from ?_
 refine d_k [0,1,13] [] 3 En20 fun ac21 En22 => ?_
 rcases Bool.eq_false_or_eq_true ((encL (12 : UInt64) [97, 99, 99, 101, 112, 116] ([([115, 114, 99], true, (3 : UInt64), [], ()), ([104, 111, 115, 116], false, (0 : UInt64), [97, 34, 98, 1], ())] : List (RPair))).2 == (0 : Int)) with hb23 | hb23
 ·
  have En24 := En22.fx (t := 13) (congrArg Value.bool hb23)
  have hp25 : (encL (12 : UInt64) [97, 99, 99, 101, 112, 116] ([([115, 114, 99], true, (3 : UInt64), [], ()), ([104, 111, 115, 116], false, (0 : UInt64), [97, 34, 98, 1], ())] : List (RPair))).2 = (0 : Int) := eq_of_beq hb23
  refine d_e [0] [(4, g_v (show (.bool (ByteArray.toList (bstr ((encL (12 : UInt64) [97, 99, 99, 101, 112, 116] ([([115, 114, 99], true, (3 : UInt64), [], ()), ([104, 111, 115, 116], false, (0 : UInt64), [97, 34, 98, 1], ())] : List (RPair))).1)) == ByteArray.toList (bstr [116, 61, 49, 50, 32, 101, 118, 61, 97, 99, 99, 101, 112, 116, 32, 115, 114, 99, 61, 51, 32, 104, 111, 115, 116, 61, 34, 97, 92, 34, 98, 92, 120, 48, 49, 34])) : Value) = .bool (((encL (12 : UInt64) [97, 99, 99, 101, 112, 116] ([([115, 114, 99], true, (3 : UInt64), [], ()), ([104, 111, 115, 116], false, (0 : UInt64), [97, 34, 98, 1], ())] : List (RPair))).1) == [116, 61, 49, 50, 32, 101, 118, 61, 97, 99, 99, 101, 112, 116, 32, 115, 114, 99, 61, 51, 32, 104, 111, 115, 116, 61, 34, 97, 92, 34, 98, 92, 120, 48, 49, 34]) by rw [Go.Dbr.bstr_eq ((encL (12 : UInt64) [97, 99, 99, 101, 112, 116] ([([115, 114, 99], true, (3 : UInt64), [], ()), ([104, 111, 115, 116], false, (0 : UInt64), [97, 34, 98, 1], ())] : List (RPair))).1) [116, 61, 49, 50, 32, 101, 118, 61, 97, 99, 99, 101, 112, 116, 32, 115, 114, 99, 61, 51, 32, 104, 111, 115, 116, 61, 34, 97, 92, 34, 98, 92, 120, 48, 49, 34]] <;> rfl))] En24 fun ac26 En27 => ?_
  refine then_normal ?_
  refine wp_ret ?_
  refine d_ret1 (t := 0) (v := .bool (((encL (12 : UInt64) [97, 99, 99, 101, 112, 116] ([([115, 114, 99], true, (3 : UInt64), [], ()), ([104, 111, 115, 116], false, (0 : UInt64), [97, 34, 98, 1], ())] : List (RPair))).1) == [116, 61, 49, 50, 32, 101, 118, 61, 97, 99, 99, 101, 112, 116, 32, 115, 114, 99, 61, 51, 32, 104, 111, 115, 116, 61, 34, 97, 92, 34, 98, 92, 120, 48, 49, 34])) En27 (by kernel_rfl) (by kernel_rfl) ?_
  exact ⟨congrArg (fun z => Ending.returned (Value.bool z)) (by show ((encL 12 [97, 99, 99, 101, 112, 116] headPs).1 == headT) = true; rw [head_enc]; decide), Hv18.pick [] (by kernel_rfl) (by decide)⟩
 ·
  have En28 := En22.fx (t := 13) (congrArg Value.bool hb23)
  have hp29 : ¬ ((encL (12 : UInt64) [97, 99, 99, 101, 112, 116] ([([115, 114, 99], true, (3 : UInt64), [], ()), ([104, 111, 115, 116], false, (0 : UInt64), [97, 34, 98, 1], ())] : List (RPair))).2 = (0 : Int)) := ne_of_beq_false hb23
  refine d_e [0] [] En28 fun ac30 En31 => ?_
  refine then_normal ?_
  refine wp_ret ?_
  refine d_ret1 (t := 0) (v := .bool false) En31 (by kernel_rfl) (by kernel_rfl) ?_
  exact absurd (show (encL 12 [97, 99, 99, 101, 112, 116] headPs).2 = 0 from congrArg Prod.snd head_enc) (by assumption)

end Go.Proofs.YtfcfgbejpcmmkaaDoor

/-
  DERIVED: THE SHELF's CONTRACTS AT THIS DUMP, IN PLAIN WORDS (tools/lay-plain.mjs out of 'TrydShelf.lean', which tools/lay-shelf.mjs wrote): THE SAME DECLARATIONS UNDER THE SAME NAMES: 'import', 'namespace', 'open', 'def', 'theorem' AND NOTHING ELSE: no command of the shelf's: FOR A HAND-IN. Each laying: the table of numbers ('.._ren') and one theorem, a field a fact of the dump's own or the kernel's comparison; each contract: ONE APPLICATION.
-/































namespace Go.Proofs
open Go.Shelf
def Tryd.lays161_ren : Go.Shelf.Ren := ⟨fun | 161 => 46 | 231 => 62 | 227 => 63 | 233 => 64 | 235 => 65 | 228 => 77 | 197 => 78 | 151 => 79 | 260 => 99 | 152 => 100 | 137 => 86 | 119 => 111 | 224 => 112 | 225 => 113 | 217 => 104 | 266 => 115 | n => n, fun | 9 => 9 | 4 => 4 | 3 => 3 | 5 => 5 | 117 => 110 | 116 => 109 | 0 => 0 | 124 => 113 | 105 => 125 | 21 => 21 | 119 => 154 | 46 => 90 | 139 => 157 | 138 => 156 | n => n, fun | 3 => 5 | 4 => 6 | n => n⟩
theorem Tryd.lays161 : Go.Proofs.Lays.n161 Tryd.prog Tryd.lays161_ren := {
  mixed := by kernel_rfl
  f119 := Tryd.func111.trans (congrArg some (by kernel_rfl))
  f137 := Tryd.func86.trans (congrArg some (by kernel_rfl))
  f151 := Tryd.func79.trans (congrArg some (by kernel_rfl))
  f152 := Tryd.func100.trans (congrArg some (by kernel_rfl))
  f161 := Tryd.func46.trans (congrArg some (by kernel_rfl))
  f197 := Tryd.func78.trans (congrArg some (by kernel_rfl))
  f217 := Tryd.func104.trans (congrArg some (by kernel_rfl))
  f224 := Tryd.func112.trans (congrArg some (by kernel_rfl))
  f225 := Tryd.func113.trans (congrArg some (by kernel_rfl))
  f227 := Tryd.func63.trans (congrArg some (by kernel_rfl))
  f228 := Tryd.func77.trans (congrArg some (by kernel_rfl))
  f231 := Tryd.func62.trans (congrArg some (by kernel_rfl))
  f233 := Tryd.func64.trans (congrArg some (by kernel_rfl))
  f235 := Tryd.func65.trans (congrArg some (by kernel_rfl))
  f260 := Tryd.func99.trans (congrArg some (by kernel_rfl))
  f266 := Tryd.func115.trans (congrArg some (by kernel_rfl))
  t0 := Tryd.underlying0
  a0 := Tryd.isAgg0
  z0 := Tryd.sizeOf0
  v0 := Tryd.zeroValue0
  t3 := Tryd.underlying3
  a3 := Tryd.isAgg3
  z3 := Tryd.sizeOf3
  v3 := Tryd.zeroValue3
  t4 := Tryd.underlying4
  a4 := Tryd.isAgg4
  z4 := Tryd.sizeOf4
  v4 := Tryd.zeroValue4
  t5 := Tryd.underlying5
  a5 := Tryd.isAgg5
  z5 := Tryd.sizeOf5
  v5 := Tryd.zeroValue5
  t9 := Tryd.underlying9
  a9 := Tryd.isAgg9
  z9 := Tryd.sizeOf9
  v9 := Tryd.zeroValue9
  t21 := Tryd.underlying21
  a21 := Tryd.isAgg21
  z21 := Tryd.sizeOf21
  v21 := Tryd.zeroValue21
  t46 := Tryd.underlying90
  a46 := Tryd.isAgg90
  z46 := Tryd.sizeOf90
  v46 := Tryd.zeroValue90
  t105 := Tryd.underlying125
  a105 := Tryd.isAgg125
  z105 := Tryd.sizeOf125
  v105 := Tryd.zeroValue125
  t116 := Tryd.underlying109
  a116 := Tryd.isAgg109
  z116 := Tryd.sizeOf109
  t117 := Tryd.underlying110
  a117 := Tryd.isAgg110
  z117 := Tryd.sizeOf110
  v117 := Tryd.zeroValue110
  t119 := Tryd.underlying154
  a119 := Tryd.isAgg154
  z119 := Tryd.sizeOf154
  t124 := Tryd.underlying113
  a124 := Tryd.isAgg113
  z124 := Tryd.sizeOf113
  v124 := Tryd.zeroValue113
  t138 := Tryd.underlying156
  a138 := Tryd.isAgg156
  z138 := Tryd.sizeOf156
  v138 := Tryd.zeroValue156
  t139 := Tryd.underlying157
  a139 := Tryd.isAgg157
  z139 := Tryd.sizeOf157
  v139 := Tryd.zeroValue157
  g3 := by kernel_rfl
  g4 := by kernel_rfl }
open Go.RowKit in
def Tryd.lays137_ren : Go.Shelf.Ren := ⟨fun | 137 => 86 | 217 => 104 | 266 => 115 | n => n, fun | 9 => 9 | 5 => 5 | 3 => 3 | n => n, fun | n => n⟩
theorem Tryd.lays137 : Go.Proofs.Lays.n137 Tryd.prog Tryd.lays137_ren := {
  mixed := by kernel_rfl
  f137 := Tryd.func86.trans (congrArg some (by kernel_rfl))
  f217 := Tryd.func104.trans (congrArg some (by kernel_rfl))
  f266 := Tryd.func115.trans (congrArg some (by kernel_rfl))
  t3 := Tryd.underlying3
  a3 := Tryd.isAgg3
  z3 := Tryd.sizeOf3
  v3 := Tryd.zeroValue3
  t5 := Tryd.underlying5
  a5 := Tryd.isAgg5
  z5 := Tryd.sizeOf5
  v5 := Tryd.zeroValue5
  t9 := Tryd.underlying9
  a9 := Tryd.isAgg9
  z9 := Tryd.sizeOf9
  v9 := Tryd.zeroValue9 }
open Go.RowKit in
/-- strings.IndexByte: "IndexByte returns the index of the first instance of c in s, or -1 if c is not present in s.": IT RETURNS 'Lib.indexByte s c'; the world is as it was. (LAID: no walk: one application.) -/
theorem Tryd.strings_IndexByte (s : ByteArray) (c : Int) (w : World) :
    Calls Tryd.prog 86 #[.string s, .int .u8 c] w fun e w' => e = .returned (.int .i64 (Lib.indexByte s.data.toList c.toNat.toUInt8)) ∧ w' = w := Any.strings_IndexByte Tryd.lays137 s c w
def Tryd.laysPu14_ren : Go.Shelf.Ren := ⟨fun | 14 => 47 | 16 => 66 | 17 => 67 | 19 => 80 | 20 => 81 | 21 => 82 | 22 => 83 | 23 => 84 | 24 => 85 | 25 => 101 | 27 => 103 | 26 => 102 | 28 => 114 | 29 => 117 | 30 => 57 | 31 => 58 | 32 => 59 | 33 => 60 | 35 => 73 | 34 => 72 | 36 => 74 | 37 => 75 | 38 => 76 | 39 => 97 | 40 => 98 | n => n, fun | 9 => 9 | 3 => 3 | 22 => 22 | 24 => 64 | 25 => 95 | 4 => 4 | 34 => 128 | 5 => 5 | 36 => 90 | 37 => 59 | 0 => 0 | 39 => 130 | 21 => 21 | 44 => 145 | 47 => 91 | 50 => 162 | 48 => 160 | 2 => 2 | 52 => 102 | 55 => 105 | 59 => 121 | 60 => 122 | 20 => 20 | 61 => 123 | 65 => 152 | 66 => 153 | 67 => 70 | n => n, fun | 0 => 1 | 1 => 2 | 2 => 0 | 3 => 3 | 4 => 4 | n => n⟩
theorem Tryd.laysPu14 : Go.Proofs.LaysPu.n14 Tryd.prog Tryd.laysPu14_ren := {
  mixed := by kernel_rfl
  f14 := Tryd.func47.trans (congrArg some (by kernel_rfl))
  f16 := Tryd.func66.trans (congrArg some (by kernel_rfl))
  f17 := Tryd.func67.trans (congrArg some (by kernel_rfl))
  f19 := Tryd.func80.trans (congrArg some (by kernel_rfl))
  f20 := Tryd.func81.trans (congrArg some (by kernel_rfl))
  f21 := Tryd.func82.trans (congrArg some (by kernel_rfl))
  f22 := Tryd.func83.trans (congrArg some (by kernel_rfl))
  f23 := Tryd.func84.trans (congrArg some (by kernel_rfl))
  f24 := Tryd.func85.trans (congrArg some (by kernel_rfl))
  f25 := Tryd.func101.trans (congrArg some (by kernel_rfl))
  f26 := Tryd.func102.trans (congrArg some (by kernel_rfl))
  f27 := Tryd.func103.trans (congrArg some (by kernel_rfl))
  f28 := Tryd.func114.trans (congrArg some (by kernel_rfl))
  f29 := Tryd.func117.trans (congrArg some (by kernel_rfl))
  f30 := Tryd.func57.trans (congrArg some (by kernel_rfl))
  f31 := Tryd.func58.trans (congrArg some (by kernel_rfl))
  f32 := Tryd.func59.trans (congrArg some (by kernel_rfl))
  f33 := Tryd.func60.trans (congrArg some (by kernel_rfl))
  f34 := Tryd.func72.trans (congrArg some (by kernel_rfl))
  f35 := Tryd.func73.trans (congrArg some (by kernel_rfl))
  f36 := Tryd.func74.trans (congrArg some (by kernel_rfl))
  f37 := Tryd.func75.trans (congrArg some (by kernel_rfl))
  f38 := Tryd.func76.trans (congrArg some (by kernel_rfl))
  f39 := Tryd.func97.trans (congrArg some (by kernel_rfl))
  f40 := Tryd.func98.trans (congrArg some (by kernel_rfl))
  t0 := Tryd.underlying0
  a0 := Tryd.isAgg0
  z0 := Tryd.sizeOf0
  v0 := Tryd.zeroValue0
  i0 := by kernel_rfl
  t2 := Tryd.underlying2
  a2 := Tryd.isAgg2
  z2 := Tryd.sizeOf2
  v2 := Tryd.zeroValue2
  i2 := by kernel_rfl
  t3 := Tryd.underlying3
  a3 := Tryd.isAgg3
  z3 := Tryd.sizeOf3
  v3 := Tryd.zeroValue3
  i3 := by kernel_rfl
  t4 := Tryd.underlying4
  a4 := Tryd.isAgg4
  z4 := Tryd.sizeOf4
  v4 := Tryd.zeroValue4
  i4 := by kernel_rfl
  t5 := Tryd.underlying5
  a5 := Tryd.isAgg5
  z5 := Tryd.sizeOf5
  v5 := Tryd.zeroValue5
  i5 := by kernel_rfl
  t9 := Tryd.underlying9
  a9 := Tryd.isAgg9
  z9 := Tryd.sizeOf9
  v9 := Tryd.zeroValue9
  i9 := by kernel_rfl
  t20 := Tryd.underlying20
  a20 := Tryd.isAgg20
  z20 := Tryd.sizeOf20
  v20 := Tryd.zeroValue20
  i20 := by kernel_rfl
  t21 := Tryd.underlying21
  a21 := Tryd.isAgg21
  z21 := Tryd.sizeOf21
  v21 := Tryd.zeroValue21
  i21 := by kernel_rfl
  t22 := Tryd.underlying22
  a22 := Tryd.isAgg22
  z22 := Tryd.sizeOf22
  v22 := Tryd.zeroValue22
  i22 := by kernel_rfl
  t24 := Tryd.underlying64
  a24 := Tryd.isAgg64
  z24 := Tryd.sizeOf64
  v24 := Tryd.zeroValue64
  i24 := by kernel_rfl
  t25 := Tryd.underlying95
  a25 := Tryd.isAgg95
  z25 := Tryd.sizeOf95
  v25 := Tryd.zeroValue95
  i25 := by kernel_rfl
  t34 := Tryd.underlying128
  a34 := Tryd.isAgg128
  z34 := Tryd.sizeOf128
  v34 := Tryd.zeroValue128
  i34 := by kernel_rfl
  c34 := by kernel_rfl
  t36 := Tryd.underlying90
  a36 := Tryd.isAgg90
  z36 := Tryd.sizeOf90
  v36 := Tryd.zeroValue90
  i36 := by kernel_rfl
  t37 := Tryd.underlying59
  a37 := Tryd.isAgg59
  z37 := Tryd.sizeOf59
  v37 := Tryd.zeroValue59
  i37 := by kernel_rfl
  t39 := Tryd.underlying130
  a39 := Tryd.isAgg130
  z39 := Tryd.sizeOf130
  v39 := Tryd.zeroValue130
  i39 := by kernel_rfl
  t44 := Tryd.underlying145
  a44 := Tryd.isAgg145
  z44 := Tryd.sizeOf145
  v44 := Tryd.zeroValue145
  i44 := by kernel_rfl
  t47 := Tryd.underlying91
  a47 := Tryd.isAgg91
  z47 := Tryd.sizeOf91
  v47 := Tryd.zeroValue91
  i47 := by kernel_rfl
  t48 := Tryd.underlying160
  a48 := Tryd.isAgg160
  z48 := Tryd.sizeOf160
  v48 := Tryd.zeroValue160
  i48 := by kernel_rfl
  t50 := Tryd.underlying162
  a50 := Tryd.isAgg162
  z50 := Tryd.sizeOf162
  v50 := Tryd.zeroValue162
  i50 := by kernel_rfl
  t52 := Tryd.underlying102
  a52 := Tryd.isAgg102
  z52 := Tryd.sizeOf102
  v52 := Tryd.zeroValue102
  i52 := by kernel_rfl
  t55 := Tryd.underlying105
  a55 := Tryd.isAgg105
  z55 := Tryd.sizeOf105
  v55 := Tryd.zeroValue105
  i55 := by kernel_rfl
  t59 := Tryd.underlying121
  a59 := Tryd.isAgg121
  z59 := Tryd.sizeOf121
  v59 := Tryd.zeroValue121
  i59 := by kernel_rfl
  t60 := Tryd.underlying122
  a60 := Tryd.isAgg122
  z60 := Tryd.sizeOf122
  v60 := Tryd.zeroValue122
  i60 := by kernel_rfl
  t61 := Tryd.underlying123
  a61 := Tryd.isAgg123
  z61 := Tryd.sizeOf123
  t65 := Tryd.underlying152
  a65 := Tryd.isAgg152
  z65 := Tryd.sizeOf152
  v65 := Tryd.zeroValue152
  i65 := by kernel_rfl
  t66 := Tryd.underlying153
  a66 := Tryd.isAgg153
  z66 := Tryd.sizeOf153
  v66 := Tryd.zeroValue153
  i66 := by kernel_rfl
  t67 := Tryd.underlying70
  a67 := Tryd.isAgg70
  z67 := Tryd.sizeOf70
  v67 := Tryd.zeroValue70
  i67 := by kernel_rfl
  g0 := by kernel_rfl
  m0 := by kernel_rfl
  g1 := by kernel_rfl
  m1 := by kernel_rfl
  g2 := by kernel_rfl
  m2 := by kernel_rfl
  g3 := by kernel_rfl
  m3 := by kernel_rfl
  g4 := by kernel_rfl
  m4 := by kernel_rfl }
open Go.RowKit in
/-- strconv.ParseUint(s, 10, 64), AT EVERY STRING THAT SPELLS A uint64 ('Lib.parseUintB 64 s.data.toList = .ok u'): u, AND NO ERROR. (LAID: no walk: one application.) -/
theorem Tryd.strconv_ParseUint_10_at64_ok (s : ByteArray) (hmax : s.size ≤ 9223372036854775806) (u : Nat) (h : Lib.parseUintB 64 s.data.toList = .ok u) (w : World) :
    Calls Tryd.prog 47 #[.string s, .int .i64 10, .int .i64 64] w fun e w' => e = .returned (.tuple #[.int .u64 u, .nilIface]) ∧ (w' = w ∨ w' = Lib.bytesWorld w 5 s) := Any.strconv_ParseUint_10_at64_ok Tryd.laysPu14 s hmax u h w
open Go.RowKit in
theorem Tryd.strconv_ParseUint_10_at64_range_var (s : ByteArray) (hlim : s.size ≤ 281474976710656) (h : Lib.parseUintB 64 s.data.toList = .range) (tp : TypeId) (p : Value) (w : World) (hvar : w.var? Tryd.prog "strconv.ErrRange" = some #[.iface tp p]) :
    Calls Tryd.prog 47 #[.string s, .int .i64 10, .int .i64 64] w fun e w' => ∃ N, e = .returned (.tuple #[.int .u64 18446744073709551615, .iface 130 (.pointer (some ⟨N, 0, none⟩))]) ∧ w.heap.size ≤ N ∧ w'.heap[N]? = some (.cells #[.string ⟨#[80, 97, 114, 115, 101, 85, 105, 110, 116]⟩, .string s, .iface tp p] 145 (0, 0)) ∧ Below w.heap.size w w' := Any.strconv_ParseUint_10_at64_range_var Tryd.laysPu14 s hlim h tp p w hvar
def Tryd.lays99_ren : Go.Shelf.Ren := ⟨fun | 99 => 43 | 206 => 61 | n => n, fun | 9 => 9 | 4 => 4 | 3 => 3 | n => n, fun | n => n⟩
theorem Tryd.lays99 : Go.Proofs.Lays.n99 Tryd.prog Tryd.lays99_ren := {
  mixed := by kernel_rfl
  f99 := Tryd.func43.trans (congrArg some (by kernel_rfl))
  f206 := Tryd.func61.trans (congrArg some (by kernel_rfl))
  t3 := Tryd.underlying3
  a3 := Tryd.isAgg3
  z3 := Tryd.sizeOf3
  v3 := Tryd.zeroValue3
  t4 := Tryd.underlying4
  a4 := Tryd.isAgg4
  z4 := Tryd.sizeOf4
  v4 := Tryd.zeroValue4
  t9 := Tryd.underlying9
  a9 := Tryd.isAgg9
  z9 := Tryd.sizeOf9
  v9 := Tryd.zeroValue9 }
open Go.RowKit Go.Lib in
/-- strings.HasPrefix: "HasPrefix reports whether the string s begins with prefix.": IT RETURNS 'Lib.hasPrefix s prefix'; the world is as it was. (LAID: no walk: one application.) -/
theorem Tryd.strings_HasPrefix (s p : ByteArray) (w : World) :
    Calls Tryd.prog 43 #[.string s, .string p] w fun e w' => e = .returned (.bool (Lib.hasPrefix s.data.toList p.data.toList)) ∧ w' = w := Any.strings_HasPrefix Tryd.lays99 s p w
end Go.Proofs

/- The keys of a map, sorted: what the library's contracts say, in terms of what is owned. -/




namespace Go.Dbr
open Go Go.RowKit Go.Sort Go.Maps
open Go.WideElems (Fit rd rg rg_of)

section
variable {H : Type} {P : Program} {kt : TypeId}
end
end Go.Dbr

/- Layer 3: what the reader calls of the library. -/



namespace Go.Proofs.YtfcfgbejpcmmkaaDoor
open Go.Dbr
set_option maxRecDepth 100000
set_option maxHeartbeats 2000000
set_option linter.unusedVariables false
set_option linter.unusedSimpArgs false

/-- the table, and the error that tells of a number that is too large: both in their variables; nobody owns them -/
structure InE (w : World) (L : List Ent) : Prop where
  t : InT w L
  er : ∃ tp p, w.var? Tryd.prog "strconv.ErrRange" = some #[.iface tp p]
  own2 : ¬ Owns L 2
theorem g2 : Tryd.prog.globalNamed "strconv.ErrRange" = some 2 := by kernel_rfl
theorem InE.lt {w : World} {L : List Ent} (h : InE w L) : 2 < w.heap.size := by
  obtain ⟨tp, p, ht⟩ := h.er
  unfold World.var? at ht
  rw [g2] at ht
  by_cases h0 : 2 < w.heap.size
  · exact h0
  · simp [Array.getElem?_eq_none (show w.heap.size ≤ 2 by omega)] at ht
theorem InE.ev {w w' : World} {L L' : List Ent} (h : InE w L) (e : Ev w L w' L') : InE w' L' := by
  refine ⟨h.t.ev e, ?_, fun o => ?_⟩
  · obtain ⟨tp, p, ht⟩ := h.er
    refine ⟨tp, p, ?_⟩
    unfold World.var? at ht ⊢
    rw [g2] at ht ⊢
    simp only [Option.bind_some] at ht ⊢
    rw [e.chg.block 2 h.lt h.own2]
    exact ht
  · rcases e.new 2 o with h1 | h1
    · exact h.own2 h1
    · have := h.lt; omega
theorem InE.pick {w : World} {L M : List Ent} (h : InE w L) (is : List Nat) (hm : M.map some = is.map (fun i => L[i]?)) : InE w M := ⟨h.t.pick is hm, h.er, fun o => h.own2 (owns_pick hm o)⟩
theorem InE.nil {w : World} {L : List Ent} (h : InE w L) : InE w [] := ⟨h.t.nil, h.er, Owns.nil⟩
theorem ev_below {w w' : World} (h : Go.RowKit.Below w.heap.size w w') : Ev w [] w' [] := ⟨Heap.nil _, ⟨h.os, h.tape, h.output, h.size, fun k hk _ => h.block k hk⟩, fun _ h => (Owns.nil h).elim⟩
theorem bstr_list (s : Bs) : (bstr s).data.toList = s := by simp [bstr]
theorem has_go (w : World) (s p : Bs) : Calls Tryd.prog 43 #[.string (bstr s), .string (bstr p)] w fun e w' => e = .returned (.bool (p.isPrefixOf s)) ∧ Ev w [] w' [] := by
  refine (Tryd.strings_HasPrefix (bstr s) (bstr p) w).mono ?_
  rintro e w' ⟨rfl, rfl⟩
  rw [bstr_list, bstr_list]
  exact ⟨rfl, Ev.refl (Heap.nil _)⟩
/-- a hexadecimal digit's number; below 0: none -/
def hxV (c : UInt8) : Int := Lib.indexByte [48, 49, 50, 51, 52, 53, 54, 55, 56, 57, 97, 98, 99, 100, 101, 102] c
theorem idx_go (w : World) (c : UInt8) : Calls Tryd.prog 86 #[.string (bstr [48, 49, 50, 51, 52, 53, 54, 55, 56, 57, 97, 98, 99, 100, 101, 102]), bv c] w fun e w' => e = .returned (.int .i64 (hxV c)) ∧ Ev w [] w' [] := by
  refine (Tryd.strings_IndexByte (bstr [48, 49, 50, 51, 52, 53, 54, 55, 56, 57, 97, 98, 99, 100, 101, 102]) _ w).mono ?_
  rintro e w' ⟨rfl, rfl⟩
  rw [bstr_list, show ((UInt8.toNat c : Nat) : Int).toNat.toUInt8 = c from by simp]
  exact ⟨rfl, Ev.refl (Heap.nil _)⟩
def dgB (c : UInt8) : Bool := decide (48 ≤ c.toNat ∧ c.toNat ≤ 57)
theorem dg_in (c : UInt8) : List.contains ([48, 49, 50, 51, 52, 53, 54, 55, 56, 57] : Bs) c = dgB c := by
  have : ∀ n : Fin 256, List.contains ([48, 49, 50, 51, 52, 53, 54, 55, 56, 57] : Bs) (UInt8.ofNat n.val) = dgB (UInt8.ofNat n.val) := by decide +kernel
  have h := this ⟨c.toNat, UInt8.toNat_lt c⟩
  simpa using h
theorem trim_go (w : World) (s : Bs) : Calls Tryd.prog 46 #[.string (bstr s), .string (bstr [48, 49, 50, 51, 52, 53, 54, 55, 56, 57])] w fun e w' => e = .returned (.string (bstr (s.dropWhile dgB))) ∧ Ev w [] w' [] := by
  refine (Go.Proofs.Any.strings_TrimLeft_laid Tryd.lays161 (by kernel_rfl) (bstr s) (bstr [48, 49, 50, 51, 52, 53, 54, 55, 56, 57]) w (by decide) (fun j b hj => ?_)).mono ?_
  · rw [bstr_list] at hj
    have h2 : b ∈ ([48, 49, 50, 51, 52, 53, 54, 55, 56, 57] : Bs) := List.mem_of_getElem? hj
    exact of_decide_eq_true (List.all_eq_true.1 (show ([48, 49, 50, 51, 52, 53, 54, 55, 56, 57] : Bs).all (fun b => decide (b.toNat < 128)) = true by decide) b h2)
  · rintro e w' ⟨rfl, hb⟩
    rw [bstr_list, bstr_list, Lib.trimLeftS, show (fun x => List.contains ([48, 49, 50, 51, 52, 53, 54, 55, 56, 57] : Bs) x) = dgB from funext dg_in]
    exact ⟨rfl, ev_below hb⟩
/-- the number that digits tell -/
def stD (acc : Nat) (c : UInt8) : Nat := acc * 10 + (c.toNat - 48)
def valD (acc : Nat) (l : Bs) : Nat := l.foldl stD acc
theorem st_def (acc : Nat) (c : UInt8) : stD acc c = acc * 10 + (c.toNat - 48) := rfl
theorem val_nil (acc : Nat) : valD acc [] = acc := List.foldl_nil
theorem val_cons (acc : Nat) (c : UInt8) (r : Bs) : valD acc (c :: r) = valD (stD acc c) r := List.foldl_cons
theorem val_app (l m : Bs) (acc : Nat) : valD acc (l ++ m) = valD (valD acc l) m := List.foldl_append
theorem val_ge (l : Bs) : ∀ (acc : Nat), acc ≤ valD acc l := by
  induction l with
  | nil => intro acc; rw [val_nil]; exact Nat.le_refl _
  | cons c r ih =>
    intro acc
    rw [val_cons]
    have h := ih (stD acc c)
    have e := st_def acc c
    omega
theorem pm_y {M acc : Nat} {c : UInt8} {r : Bs} (hc : 48 ≤ c.toNat ∧ c.toNat ≤ 57) (h1 : ¬ 1844674407370955162 ≤ acc) (h2 : ¬ M < acc * 10 + (c.toNat - 48)) : Lib.parseUintM M acc (c :: r) = Lib.parseUintM M (acc * 10 + (c.toNat - 48)) r :=
  (if_pos hc).trans ((if_neg h1).trans (if_neg h2))
theorem pm_1 {M acc : Nat} {c : UInt8} {r : Bs} (hc : 48 ≤ c.toNat ∧ c.toNat ≤ 57) (h1 : 1844674407370955162 ≤ acc) : Lib.parseUintM M acc (c :: r) = .range :=
  (if_pos hc).trans (if_pos h1)
theorem pm_2 {M acc : Nat} {c : UInt8} {r : Bs} (hc : 48 ≤ c.toNat ∧ c.toNat ≤ 57) (h1 : ¬ 1844674407370955162 ≤ acc) (h2 : M < acc * 10 + (c.toNat - 48)) : Lib.parseUintM M acc (c :: r) = .range :=
  (if_pos hc).trans ((if_neg h1).trans (if_pos h2))
theorem pu_ok_of {M : Nat} (hM : M = 18446744073709551615) (l : Bs) : ∀ (acc : Nat), l.all dgB = true → valD acc l ≤ M → Lib.parseUintM M acc l = .ok (valD acc l) := by
  induction l with
  | nil => intro acc _ _; rw [val_nil]; rfl
  | cons c r ih =>
    intro acc h hv
    rw [List.all_cons, Bool.and_eq_true] at h
    have hc : 48 ≤ c.toNat ∧ c.toNat ≤ 57 := of_decide_eq_true h.1
    have hv2 := hv
    rw [val_cons, st_def] at hv2
    have hg := val_ge r (acc * 10 + (c.toNat - 48))
    rw [val_cons, st_def]
    exact (pm_y hc (by omega) (by omega)).trans (ih _ h.2 hv2)
theorem pu_range_of {M : Nat} (hM : M = 18446744073709551615) (l : Bs) : ∀ (acc : Nat), l.all dgB = true → acc ≤ M → ¬ valD acc l ≤ M → Lib.parseUintM M acc l = .range := by
  induction l with
  | nil => intro acc _ h1 h2; rw [val_nil] at h2; exact absurd h1 h2
  | cons c r ih =>
    intro acc h h1 hv
    rw [List.all_cons, Bool.and_eq_true] at h
    have hc : 48 ≤ c.toNat ∧ c.toNat ≤ 57 := of_decide_eq_true h.1
    have hv2 := hv
    rw [val_cons, st_def] at hv2
    by_cases g1 : 1844674407370955162 ≤ acc
    · exact pm_1 hc g1
    · by_cases g2 : M < acc * 10 + (c.toNat - 48)
      · exact pm_2 hc g1 g2
      · exact (pm_y hc g1 g2).trans (ih _ h.2 (by omega) hv2)
theorem m64 : (2 : Nat) ^ 64 - 1 = 18446744073709551615 := by decide
theorem pu_ok (w : World) (s : Bs) (hs : s.length ≤ 140737488351232) (h0 : s ≠ []) (hd : s.all dgB = true) (hv : valD 0 s < 18446744073709551616) : Calls Tryd.prog 47 #[.string (bstr s), .int .i64 10, .int .i64 64] w fun e w' => e = .returned (.tuple #[uv64 (UInt64.ofNat (valD 0 s)), .nilIface]) ∧ Ev w [] w' [] := by
  have hp : Lib.parseUintB 64 (bstr s).data.toList = .ok (valD 0 s) := by rw [bstr_list, Lib.parseUintB, if_neg h0, pu_ok_of m64 s 0 hd (by rw [m64]; omega)]
  refine (Tryd.strconv_ParseUint_10_at64_ok (bstr s) (by rw [bstr_size]; omega) _ hp w).mono ?_
  rintro e w' ⟨rfl, h⟩
  refine ⟨?_, ?_⟩
  · have : (UInt64.ofNat (valD 0 s)).toNat = valD 0 s := UInt64.toNat_ofNat_of_lt hv
    rw [uv64, this]
  · rcases h with rfl | rfl
    · exact Ev.refl (Heap.nil _)
    · exact ev_below (Lib.bytesWorld_below _ _ _)
theorem pu_no (w : World) (s : Bs) (hs : s.length ≤ 140737488351232) (h0 : s ≠ []) (hd : s.all dgB = true) (hv : ¬ valD 0 s < 18446744073709551616) (ge : InE w []) : Calls Tryd.prog 47 #[.string (bstr s), .int .i64 10, .int .i64 64] w fun e w' => ∃ N, e = .returned (.tuple #[.int .u64 18446744073709551615, .iface 130 (pt N)]) ∧ Ev w [] w' [] := by
  have hp : Lib.parseUintB 64 (bstr s).data.toList = .range := by rw [bstr_list, Lib.parseUintB, if_neg h0, pu_range_of m64 s 0 hd (Nat.zero_le _) (by rw [m64]; omega)]
  obtain ⟨tp, p, he⟩ := ge.er
  refine (Tryd.strconv_ParseUint_10_at64_range_var (bstr s) (by rw [bstr_size]; omega) hp tp p w he).mono ?_
  rintro e w' ⟨N, rfl, -, -, hb⟩
  exact ⟨N, rfl, ev_below hb⟩

end Go.Proofs.YtfcfgbejpcmmkaaDoor

/- Parts of texts. Over any program. -/




namespace Go.Dbr
open Go Go.RowKit
section
variable {P : Program}
theorem run_strfrom {t : TypeId} {l : List UInt8} {i : Nat} {k : IntKind} {ix : Int} (hu : P.underlying t = some .string) (hi : ix = (i : Int)) (h1 : i ≤ l.length) (w : World) :
    (Instr.sliceAt t (.string (bstr l)) (some (.int k ix)) none none).run P w = .ok (.string (bstr (l.drop i))) w := by
  subst hi
  have hs := bstr_size l
  rw [run_sliceAt_string w t _ _ _ _ hu, run_slice_string_from_if w t _ _ _ hu, if_pos ⟨by omega, by omega⟩, Int.toNat_natCast, hs, bstr, ByteArray.extract_mk]
  rw [List.take_of_length_le (by rw [List.length_drop]; omega)]
  rfl
theorem run_strto {t : TypeId} {l : List UInt8} {j : Nat} {k : IntKind} {ix : Int} (hu : P.underlying t = some .string) (hj : ix = (j : Int)) (h1 : j ≤ l.length) (w : World) :
    (Instr.sliceAt t (.string (bstr l)) none (some (.int k ix)) none).run P w = .ok (.string (bstr (l.take j))) w := by
  subst hj
  have hs := bstr_size l
  rw [run_sliceAt_string w t _ _ _ _ hu, run_slice_string_to_if w t _ _ _ hu, if_pos ⟨by omega, by omega⟩, Int.toNat_natCast, bstr, ByteArray.extract_mk]
  rfl
theorem run_strmid {t : TypeId} {l : List UInt8} {i j m : Nat} {k k' : IntKind} {ix jx : Int} (hu : P.underlying t = some .string) (hi : ix = (i : Int)) (hj : jx = (j : Int)) (hm : j = i + m) (h1 : j ≤ l.length) (w : World) :
    (Instr.sliceAt t (.string (bstr l)) (some (.int k ix)) (some (.int k' jx)) none).run P w = .ok (.string (bstr ((l.drop i).take m))) w := by
  subst hi hj hm
  have hs := bstr_size l
  rw [run_sliceAt_string w t _ _ _ _ hu, run_slice_string w t _ _ _ _ _ hu (by omega) (by omega) (by omega), Int.toNat_natCast, Int.toNat_natCast, bstr, ByteArray.extract_mk, Nat.add_sub_cancel_left]
  rfl
theorem d_cell_tt {fn : Func} {R : Ending → World → Prop} {n : Nat} {l : List (Nat × Value)} {a : Act} {w : World} (E : Env a n l) {t u s : Nat} {T : TypeId} {ad : Addr} {v x y : Value} (hr : fn.results = #[.cell t T, .tmp u, .tmp s]) (ht : look l t = some (.pointer (some ad))) (hv : (loadVar T ad).run P w = .ok v w) (hx : look l u = some x) (hy : look l s = some y) (h : R (.returned (.tuple #[v, x, y])) w) : bodyPost P fn R .ret a w := by
  refine bodyPost_ret (v := .tuple #[v, x, y]) ?_ E.defers h
  simp [results, hr, E.getQ ht, E.getQ hx, E.getQ hy, asAddr, hv]
end
end Go.Dbr

/- Layer 3: the reader of lines: words that must stand there, numbers. -/



namespace Go.Proofs.YtfcfgbejpcmmkaaDoor
open Go.Dbr
set_option maxRecDepth 100000
set_option maxHeartbeats 2000000
set_option linter.unusedVariables false
set_option linter.unusedSimpArgs false

/-- is it bad behind a word that must stand there? -/
def tkB (bd : Bool) (wd r : Bs) : Bool := bd || !wd.isPrefixOf r
theorem nb_t {b : Bool} (h : (!b) = true) : ¬ b = true := by cases b <;> simp_all
theorem nb_f {b : Bool} (h : (!b) = false) : b = true := by cases b <;> simp_all
theorem pre_iff {wd r : Bs} : wd.isPrefixOf r = true ↔ wd <+: r := List.isPrefixOf_iff_prefix
theorem pre_next {wd s : Bs} {k i : Nat} (hi : i < wd.length) (h : (List.take i wd).isPrefixOf (List.drop k s) = true) (g : (List.take 1 (List.drop i wd)).isPrefixOf (List.drop (k + i) s) = true) : (List.take (i + 1) wd).isPrefixOf (List.drop k s) = true ∧ k + i + 1 ≤ s.length := by
  obtain ⟨a, ha⟩ := pre_iff.1 h
  obtain ⟨b, hb⟩ := pre_iff.1 g
  have hl : (List.take i wd).length = i := by rw [List.length_take]; omega
  have e1 : List.drop (k + i) s = a := by rw [← List.drop_drop, ← ha]; have := List.drop_left (l₁ := List.take i wd) (l₂ := a); rwa [hl] at this
  have e2 : List.take (i + 1) wd = List.take i wd ++ List.take 1 (List.drop i wd) := List.take_add
  have h1 : (List.take 1 (List.drop i wd)).length = 1 := by rw [List.length_take, List.length_drop]; omega
  refine ⟨pre_iff.2 ⟨b, ?_⟩, ?_⟩
  · rw [e2, List.append_assoc, hb, e1, ha]
  · have := congrArg List.length hb
    rw [List.length_append, h1, List.length_drop] at this
    omega
theorem pre_stop {wd s : Bs} {k i : Nat} (hi : i < wd.length) (h : (List.take i wd).isPrefixOf (List.drop k s) = true) (g : ¬ (List.take 1 (List.drop i wd)).isPrefixOf (List.drop (k + i) s) = true) : wd.isPrefixOf (List.drop k s) = false := by
  refine Bool.eq_false_iff.2 fun hp => g ?_
  obtain ⟨a, ha⟩ := pre_iff.1 hp
  have hl : (List.take i wd).length = i := by rw [List.length_take]; omega
  have e1 : List.drop (k + i) s = List.drop i wd ++ a := by rw [← List.drop_drop, ← ha, List.drop_append_of_le_length (by omega)]
  rw [e1]
  exact pre_iff.2 ((List.take_prefix 1 _).trans (List.prefix_append _ _))
/-- how many digits a text begins with -/
def nDg (r : Bs) : Nat := (r.takeWhile dgB).length
def numOk (r : Bs) : Bool := decide (1 ≤ nDg r ∧ ¬ (1 < nDg r ∧ r.getD 0 0 = 48) ∧ valD 0 (r.take (nDg r)) < 18446744073709551616)
def nmB (bd : Bool) (r : Bs) : Bool := bd || !numOk r
def numV (bd : Bool) (r : Bs) : UInt64 := if nmB bd r then 0 else UInt64.ofNat (valD 0 (r.take (nDg r)))
theorem nDg_le (r : Bs) : nDg r ≤ r.length := by
  rw [nDg]
  induction r with
  | nil => simp
  | cons x r ih => rw [List.takeWhile_cons]; split <;> simp <;> omega
theorem trim_len (r : Bs) : r.length - (r.dropWhile dgB).length = nDg r := by
  rw [nDg]
  have := congrArg List.length (List.takeWhile_append_dropWhile (p := dgB) (l := r))
  rw [List.length_append] at this
  omega
theorem trim_le (r : Bs) : (r.dropWhile dgB).length ≤ r.length := by
  have := congrArg List.length (List.takeWhile_append_dropWhile (p := dgB) (l := r))
  rw [List.length_append] at this
  omega
theorem take_dg (r : Bs) : r.take (nDg r) = r.takeWhile dgB := by
  rw [nDg]
  conv => lhs; rw [← List.takeWhile_append_dropWhile (p := dgB) (l := r)]
  rw [show (List.takeWhile dgB (List.takeWhile dgB r ++ List.dropWhile dgB r)).length = (List.takeWhile dgB r).length from by rw [List.takeWhile_append_dropWhile]]
  exact List.take_left
theorem take_all {r : Bs} {j : Nat} (hj : j ≤ nDg r) : (r.take j).all dgB = true := by
  have e : r.take j = (r.takeWhile dgB).take j := by rw [← take_dg, List.take_take, Nat.min_eq_left hj]
  rw [e, List.all_eq_true]
  intro x hx
  have h1 := List.mem_of_mem_take hx
  exact List.all_eq_true.1 List.all_takeWhile x h1
theorem val_mono {r : Bs} {i j : Nat} (h : i ≤ j) : valD 0 (r.take i) ≤ valD 0 (r.take j) := by
  have e : r.take j = r.take i ++ (r.drop i).take (j - i) := by
    conv => lhs; rw [show j = i + (j - i) by omega]
    exact List.take_add
  rw [e, val_app]
  exact val_ge _ _
theorem val_big (l : Bs) : ∀ (acc : Nat), acc * 10 ^ l.length ≤ valD acc l := by
  induction l with
  | nil => intro acc; rw [val_nil, List.length_nil, Nat.pow_zero, Nat.mul_one]; exact Nat.le_refl _
  | cons c r ih =>
    intro acc
    rw [val_cons, List.length_cons, Nat.pow_succ]
    refine Nat.le_trans ?_ (ih _)
    rw [Nat.mul_comm (10 ^ r.length) 10, ← Nat.mul_assoc, st_def]
    exact Nat.mul_le_mul_right _ (Nat.le_add_right _ _)
theorem num_0 {r : Bs} (h : nDg r = 0) : numOk r = false := decide_eq_false (fun g => by have := g.1; omega)
theorem num_z {r : Bs} (h : 1 < nDg r) (g : r.getD 0 0 = 48) : numOk r = false := decide_eq_false (fun q => q.2.1 ⟨h, g⟩)
theorem num_v {r : Bs} {j : Nat} (hj : j ≤ nDg r) (h : ¬ valD 0 (r.take j) < 18446744073709551616) : numOk r = false := decide_eq_false (fun q => h (Nat.lt_of_le_of_lt (val_mono hj) q.2.2))
theorem num_l {r : Bs} (h : 20 < nDg r) (g : ¬ r.getD 0 0 = 48) : numOk r = false := by
  refine decide_eq_false fun q => ?_
  have hv := q.2.2
  have hall := take_all (r := r) (Nat.le_refl (nDg r))
  have hl := nDg_le r
  cases r with
  | nil => simp [nDg] at h
  | cons c t =>
    obtain ⟨n, hn⟩ : ∃ n, nDg (c :: t) = n + 1 := ⟨nDg (c :: t) - 1, by omega⟩
    rw [hn, List.take_succ_cons] at hv hall
    rw [List.all_cons, Bool.and_eq_true] at hall
    have hc : 48 ≤ c.toNat ∧ c.toNat ≤ 57 := of_decide_eq_true hall.1
    have hne : c.toNat ≠ 48 := fun e => g (UInt8.toNat_inj.1 e)
    rw [val_cons] at hv
    have h1 := val_big (t.take n) (stD 0 c)
    have h2 : (t.take n).length = n := by rw [List.length_take]; simp only [List.length_cons] at hl; omega
    rw [h2] at h1
    have h3 : (10 : Nat) ^ 20 ≤ 10 ^ n := Nat.pow_le_pow_right (by decide) (by omega)
    have h4 : 1 * 10 ^ 20 ≤ stD 0 c * 10 ^ n := Nat.mul_le_mul (by rw [st_def]; omega) h3
    omega
theorem num_y {r : Bs} (h0 : ¬ nDg r = 0) (h1 : ¬ (1 < nDg r ∧ r.getD 0 0 = 48)) (h : valD 0 (r.take (nDg r)) < 18446744073709551616) : numOk r = true := decide_eq_true ⟨by omega, h1, h⟩

theorem rest_go (w : World) (rb : Nat) (s : Bs) (k : Nat) (bd : Bool) (hs : List.length s ≤ 1024) (hk : k ≤ List.length s) (hH : Heap w [.box rb [.string (bstr s), ni k, .bool bd] 73]) : Calls Tryd.prog 44 #[pt rb] w fun e w' => e = .returned (.string (bstr (List.drop k s))) ∧ Ev w [.box rb [.string (bstr s), ni k, .bool bd] 73] w' [.box rb [.string (bstr s), ni k, .bool bd] 73] := by
 refine d_0 [(0, pt rb)] 12 Go.Proofs.Tryd.func44 Go.Proofs.Tryd.ntmps44 (hH) fun act0 En0 Hv0 => ?_
 refine d_s [0,2] [] En0 fun ac1 En2 => ?_
 refine wp_seq ?_
 refine r_c (fun ac wo => Env ac 12 [(2, .string (bstr (List.drop k s)))] ∧ Ev w [.box rb [.string (bstr s), ni k, .bool bd] 73] wo [.box rb [.string (bstr s), ni k, .bool bd] 73]) ?_ ?_
 ·
  refine s_g0 [(0, pt rb)] [0,1,2,3,4,5,6,7,8,9] [(2, .string (bstr (List.drop k s))), (3, pt rb), (4, pt rb), (5, pt rb), (6, .string (bstr s)), (7, pt rb), (8, pt rb), (9, .pointer (some ⟨rb, 1, none⟩)), (10, ni k), (11, .string (bstr (List.drop k s)))] 0 [(2, .string (bstr (List.drop k s)))] (En2.sb) (Hv0.trans (Ev.drew Hv0.heap)) ?_ fun ac20 wo21 En22 Hv23 => ?_
  ·
   refine s_p [] ?_
   refine s_p [] ?_
   refine s_p [] ?_
   refine s_l 0 ?_
   refine s_p [] ?_
   refine s_p [] ?_
   refine s_p [] ?_
   refine s_l 0 ?_
   refine s_c (fun Mx13 ac14 wo15 En16 Hv17 => ?_) ?_
   ·
    refine q_v (x := Instr.sliceAt 9 (.string (bstr s)) (some (ni k)) none none) (v := .string (bstr (List.drop k s))) En16 (Go.Dbr.run_strfrom (l := s) (i := k) (by kernel_rfl) (by omega) (by omega) _) fun ac18 En19 => ?_
    exact s_e En19 Hv17
   refine s_p [] ?_
   exact s_n
  exact a_e ⟨En22.sub (by kernel_rfl), Hv23.pick [0] (by kernel_rfl) (by decide)⟩
 rintro ac24 wo25 ⟨En26, Hv27⟩
 refine then_normal ?_
 refine wp_ret ?_
 refine d_ret1 (t := 2) (v := .string (bstr (List.drop k s))) En26 (by kernel_rfl) (by kernel_rfl) ?_
 exact ⟨rfl, Hv27.pick [0] (by kernel_rfl) (by decide)⟩

end Go.Proofs.YtfcfgbejpcmmkaaDoor

/- Layer 3: the reader of lines: places, words that must stand there, numbers. -/

namespace Go.Proofs.YtfcfgbejpcmmkaaDoor
open Go.Dbr
set_option maxRecDepth 100000
set_option maxHeartbeats 2000000
set_option linter.unusedVariables false
set_option linter.unusedSimpArgs false

theorem fail_go (w : World) (rb : Nat) (s : Bs) (k p : Nat) (bd : Bool) (hH : Heap w [.box rb [.string (bstr s), ni k, .bool bd] 73]) : Calls Tryd.prog 45 #[pt rb, ni p] w fun e w' => e = .returned (.tuple #[]) ∧ Ev w [.box rb [.string (bstr s), ni k, .bool bd] 73] w' [.box rb [.string (bstr s), ni p, .bool true] 73] := by
 refine d_0 [(0, pt rb), (1, ni p)] 11 Go.Proofs.Tryd.func45 Go.Proofs.Tryd.ntmps45 (hH) fun act0 En0 Hv0 => ?_
 refine region_from ?_
 refine d_k [5,6,8] [] 5 En0 fun ac1 En2 => ?_
 refine f_o ?_
 refine m_s 0 [.box rb [.string (bstr s), ni k, .bool true] 73] En2 Hv0 fun ac3 wo4 En5 Hv6 => ?_
 refine d_k [6,10] [] 8 En5 fun ac7 En8 => ?_
 refine f_o ?_
 refine m_s 0 [.box rb [.string (bstr s), ni p, .bool true] 73] En8 Hv6 fun ac9 wo10 En11 Hv12 => ?_
 refine f_e ?_
 refine d_end0 En11 (by kernel_rfl) ?_
 exact ⟨rfl, Hv12.pick [0] (by kernel_rfl) (by decide)⟩

theorem take_t (w : World) (rb : Nat) (s wd : Bs) (k : Nat) (hs : List.length s ≤ 1024) (hk : k ≤ List.length s) (hH : Heap w [.box rb [.string (bstr s), ni k, .bool true] 73]) : Calls Tryd.prog 26 #[pt rb, .string (bstr wd)] w fun e w' => ∃ p, e = .returned (.tuple #[]) ∧ Ev w [.box rb [.string (bstr s), ni k, .bool true] 73] w' [.box rb [.string (bstr s), ni p, .bool (tkB true wd (List.drop k s))] 73] ∧ p ≤ List.length s ∧ (tkB true wd (List.drop k s) = false → p = k + List.length wd) := by
 refine d_0 [(0, pt rb), (1, .string (bstr wd))] 40 Go.Proofs.Tryd.func26 Go.Proofs.Tryd.ntmps26 (hH) fun act0 En0 Hv0 => ?_
 refine d_s [0,1,4] [] En0 fun ac1 En2 => ?_
 refine wp_block ?_
 refine loop_m (fun ms3 ac wo => ∃ (i : Nat), ms3 = (1 - i : Nat) ∧ Env ac 40 [(0, pt rb), (1, .string (bstr wd)), (4, ni i)] ∧ Ev w [.box rb [.string (bstr s), ni k, .bool true] 73] wo [.box rb [.string (bstr s), ni k, .bool true] 73] ∧ (i = 0)) ⟨_, 0, rfl, En2.sub (by kernel_rfl), Hv0.pick [0] (by kernel_rfl) (by decide), rfl⟩ ?_
 rintro mm9 ac5 wo6 ⟨i, rfl, En7, Hv8, hi⟩
 refine wp_seq ?_
 refine wp_seq ?_
 refine region_from ?_
 refine d_k [0,1,4,9] [] 5 En7 fun ac10 En11 => ?_
 rcases Bool.eq_false_or_eq_true (decide (((i : Nat) : Int) < ((ByteArray.size (bstr wd) : Nat) : Int))) with hb12 | hb12
 ·
  have En13 := En11.fx (t := 9) (congrArg Value.bool hb12)
  have hp14 : ((i : Nat) : Int) < ((ByteArray.size (bstr wd) : Nat) : Int) := of_decide_eq_true hb12
  refine d_k [0,1,4,9,12] [] 8 En13 fun ac15 En16 => ?_
  refine f_o ?_
  refine m_l 0 En16 Hv8 fun ac17 En18 => ?_
  refine d_e [0,1,4,15] [] En18 fun ac19 En20 => ?_
  refine then_normal ?_
  refine c_f En20 ?_
  refine wp_exit ?_
  refine then_exit ?_
  refine then_exit ?_
  refine block_exit ?_
  refine d_end0 En20 (by kernel_rfl) ?_
  exact ⟨k, rfl, Hv8.pick [0] (by kernel_rfl) (by decide), hk, (fun h => by cases h)⟩
 ·
  have En21 := En11.fx (t := 9) (congrArg Value.bool hb12)
  have hp22 : ¬ (((i : Nat) : Int) < ((ByteArray.size (bstr wd) : Nat) : Int)) := of_decide_eq_false hb12
  refine d_e [0,1,4,15] [] En21 fun ac23 En24 => ?_
  refine then_normal ?_
  refine c_f En24 ?_
  refine wp_exit ?_
  refine then_exit ?_
  refine then_exit ?_
  refine block_exit ?_
  refine d_end0 En24 (by kernel_rfl) ?_
  exact ⟨k, rfl, Hv8.pick [0] (by kernel_rfl) (by decide), hk, (fun h => by cases h)⟩

theorem take_f (w : World) (rb : Nat) (s wd : Bs) (k : Nat) (hs : List.length s ≤ 1024) (hk : k ≤ List.length s) (hH : Heap w [.box rb [.string (bstr s), ni k, .bool false] 73]) : Calls Tryd.prog 26 #[pt rb, .string (bstr wd)] w fun e w' => ∃ p, e = .returned (.tuple #[]) ∧ Ev w [.box rb [.string (bstr s), ni k, .bool false] 73] w' [.box rb [.string (bstr s), ni p, .bool (tkB false wd (List.drop k s))] 73] ∧ p ≤ List.length s ∧ (tkB false wd (List.drop k s) = false → p = k + List.length wd) := by
 refine d_0 [(0, pt rb), (1, .string (bstr wd))] 40 Go.Proofs.Tryd.func26 Go.Proofs.Tryd.ntmps26 (hH) fun act0 En0 Hv0 => ?_
 refine wp_seq ?_
 refine d_r [0,1,4] [] En0 fun ac1 En2 => ?_
 refine then_normal ?_
 refine wp_block ?_
 refine loop_m (fun ms3 ac wo => ∃ (i : Nat), ms3 = (List.length wd - i : Nat) ∧ Env ac 40 [(0, pt rb), (1, .string (bstr wd)), (4, ni i)] ∧ Ev w [.box rb [.string (bstr s), ni k, .bool false] 73] wo [.box rb [.string (bstr s), .int .i64 ((k + i : Nat) : Int), .bool false] 73] ∧ (i ≤ List.length wd) ∧ (List.isPrefixOf (List.take i wd) (List.drop k s) = true) ∧ (k + i ≤ List.length s)) ⟨_, 0, rfl, En2.sub (by kernel_rfl), Hv0.pick [0] (by kernel_rfl) (by decide), (Nat.zero_le _), (by rw [List.take_zero]; rfl), (by omega)⟩ ?_
 rintro mm9 ac5 wo6 ⟨i, rfl, En7, Hv8, hi, hpre, hki⟩
 refine wp_seq ?_
 refine wp_seq ?_
 have hz := bstr_size wd
 refine region_from ?_
 refine d_k [0,1,4,9] [] 5 En7 fun ac10 En11 => ?_
 rcases Bool.eq_false_or_eq_true (decide (((i : Nat) : Int) < ((ByteArray.size (bstr wd) : Nat) : Int))) with hb12 | hb12
 ·
  have En13 := En11.fx (t := 9) (congrArg Value.bool hb12)
  have hp14 : ((i : Nat) : Int) < ((ByteArray.size (bstr wd) : Nat) : Int) := of_decide_eq_true hb12
  refine d_k [0,1,4,9,12] [] 8 En13 fun ac15 En16 => ?_
  refine f_o ?_
  refine m_l 0 En16 Hv8 fun ac17 En18 => ?_
  refine d_e [0,1,4,15] [] En18 fun ac19 En20 => ?_
  refine then_normal ?_
  refine c_t En20 ?_
  refine wp_skip ?_
  refine then_normal ?_
  refine wp_seq ?_
  refine wp_block ?_
  refine wp_seq ?_
  refine wp_seq ?_
  refine r_c (fun ac wo => Env ac 40 [(0, pt rb), (1, .string (bstr wd)), (4, ni i), (26, .bool (!(List.isPrefixOf (List.take 1 (List.drop i wd)) (List.drop (k + i) s))))] ∧ Ev w [.box rb [.string (bstr s), ni k, .bool false] 73] wo [.box rb [.string (bstr s), .int .i64 ((k + i : Nat) : Int), .bool false] 73]) ?_ ?_
  ·
   refine draw_any (by kernel_rfl) 9 (by kernel_rfl) ?_
   have wo21 := Hv8.trans (Ev.drew Hv8.heap)
   refine q_a [0,2,3,4,5] [(5, g_n (w_a i 1))] 4 En20 fun ac42 En43 => ?_
   refine q_g 6 (s := Instr.sliceAt 9 (.string (bstr wd)) (some (ni i)) (some (.int .i64 ((i + 1 : Nat) : Int))) none) (v := .string (bstr (List.take 1 (List.drop i wd)))) En43 (fun _ => Go.Dbr.run_strmid (l := wd) (i := i) (j := (i + 1)) (m := 1) (by kernel_rfl) (by omega) (by omega) (by omega) (by omega) _) fun ac44 En45 => ?_
   refine q_u 1 ?_
   refine c_l [0] (M := [.box rb [.string (bstr s), .int .i64 ((k + i : Nat) : Int), .bool false] 73]) En45 wo21 (fun hM46 => rest_go _ rb s (k + i) false hs (by omega) hM46) ?_
   rintro _ wo47 ⟨rfl, he48⟩
   refine ⟨_, _, [.box rb [.string (bstr s), .int .i64 ((k + i : Nat) : Int), .bool false] 73], rfl, he48, by kernel_rfl, fun ac50 En51 Hv52 => ?_⟩
   refine q_u 7 ?_
   refine c_p En51 Hv52 (has_go _ (List.drop (k + i) s) (List.take 1 (List.drop i wd))) fun ac57 wo54 En58 Hv59 => ?_
   refine q_a [8] [] 0 En58 fun ac60 En61 => ?_
   exact a_e ⟨En61.sub (by kernel_rfl), Hv59.pick [0] (by kernel_rfl) (by decide)⟩
  rintro ac62 wo63 ⟨En64, Hv65⟩
  refine then_normal ?_
  refine cond_at En64 (t := !(List.isPrefixOf (List.take 1 (List.drop i wd)) (List.drop (k + i) s))) (by kernel_rfl) (fun hc66 => ?_) (fun hc66 => ?_)
  ·
   replace hc66 : ¬ (List.isPrefixOf (List.take 1 (List.drop i wd)) (List.drop (k + i) s) = true) := by first | exact nb_t hc66 | exact nb_f hc66 | (simp at hc66; done) | (simp; done) | simpa using hc66
   refine wp_seq ?_
   refine region_from ?_
   refine d_k [0,1,4,27,30] [] 4 En64 fun ac67 En68 => ?_
   refine f_o ?_
   refine m_l 0 En68 Hv65 fun ac69 En70 => ?_
   refine f_o ?_
   refine c_l [0] (M := [.box rb [.string (bstr s), .int .i64 ((k + i : Nat) : Int), .bool false] 73]) En70 Hv65 (fun hM71 => fail_go _ rb s (k + i) (k + i) false hM71) ?_
   rintro _ wo72 ⟨rfl, he73⟩
   refine ⟨_, _, [.box rb [.string (bstr s), .int .i64 ((k + i : Nat) : Int), .bool true] 73], rfl, he73, by kernel_rfl, fun ac75 En76 Hv77 => ?_⟩
   refine f_e ?_
   refine then_normal ?_
   refine wp_ret ?_
   refine then_ret ?_
   refine block_ret ?_
   refine then_ret ?_
   refine then_ret ?_
   refine block_ret ?_
   refine d_ret0 En76 (by kernel_rfl) ?_
   have hq := pre_stop (by omega) hpre (by assumption)
   rw [show tkB false wd (List.drop k s) = true from by rw [tkB, hq]; rfl]
   exact ⟨(k + i), rfl, Hv77.pick [0] (by kernel_rfl) (by decide), (by omega), (fun h => by cases h)⟩
  ·
   replace hc66 : List.isPrefixOf (List.take 1 (List.drop i wd)) (List.drop (k + i) s) = true := by first | exact nb_t hc66 | exact nb_f hc66 | (simp at hc66; done) | (simp; done) | simpa using hc66
   refine wp_skip ?_
   refine then_normal ?_
   refine region_from ?_
   refine d_k [0,1,4,33,35] [] 3 En64 fun ac78 En79 => ?_
   refine f_o ?_
   refine m_l 0 En79 Hv65 fun ac80 En81 => ?_
   refine d_k [0,1,4,37,39] [(4, g_n (w_a (k + i) 1))] 7 En81 fun ac82 En83 => ?_
   refine f_o ?_
   refine m_s 0 [.box rb [.string (bstr s), .int .i64 (((k + i) + 1 : Nat) : Int), .bool false] 73] En83 Hv65 fun ac84 wo85 En86 Hv87 => ?_
   refine f_e ?_
   refine block_normal ?_
   refine then_normal ?_
   refine d_r [0,1,4] [(1, g_n (w_a i 1))] En86 fun ac88 En89 => ?_
   refine then_normal ?_
   refine ⟨_, ⟨i + 1, rfl, En89.sub (by kernel_rfl), Hv87.pick [0] (by kernel_rfl) (by decide), (by omega), (pre_next (by omega) hpre (by assumption)).1, (by have := (pre_next (by omega) hpre (by assumption)).2; omega)⟩, ?_⟩
   omega
 ·
  have En90 := En11.fx (t := 9) (congrArg Value.bool hb12)
  have hp91 : ¬ (((i : Nat) : Int) < ((ByteArray.size (bstr wd) : Nat) : Int)) := of_decide_eq_false hb12
  refine d_e [0,1,4,15] [] En90 fun ac92 En93 => ?_
  refine then_normal ?_
  refine c_f En93 ?_
  refine wp_exit ?_
  refine then_exit ?_
  refine then_exit ?_
  refine block_exit ?_
  refine d_end0 En93 (by kernel_rfl) ?_
  have hie : i = List.length wd := by omega
  rw [show tkB false wd (List.drop k s) = false from by rw [hie, List.take_length] at hpre; rw [tkB, hpre]; rfl]
  exact ⟨(k + i), rfl, Hv8.pick [0] (by kernel_rfl) (by decide), (by omega), (fun _ => by omega)⟩

theorem take_go (w : World) (rb : Nat) (s wd : Bs) (k : Nat) (bd : Bool) (hs : List.length s ≤ 1024) (hk : k ≤ List.length s) (hH : Heap w [.box rb [.string (bstr s), ni k, .bool bd] 73]) : Calls Tryd.prog 26 #[pt rb, .string (bstr wd)] w fun e w' => ∃ p, e = .returned (.tuple #[]) ∧ Ev w [.box rb [.string (bstr s), ni k, .bool bd] 73] w' [.box rb [.string (bstr s), ni p, .bool (tkB bd wd (List.drop k s))] 73] ∧ p ≤ List.length s ∧ (tkB bd wd (List.drop k s) = false → p = k + List.length wd) := by
  cases bd with
  | false => exact take_f w rb s wd k hs hk hH
  | true => exact take_t w rb s wd k hs hk hH

end Go.Proofs.YtfcfgbejpcmmkaaDoor
