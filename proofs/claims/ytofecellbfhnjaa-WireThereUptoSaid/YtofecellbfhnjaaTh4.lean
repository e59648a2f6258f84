import Derived.Test.YtofecellbfhnjaaTh3
import Derived.Laws.IdiomStrings
/- Layer 17: readers. -/



namespace Go.Proofs.Ytofecellbfhnjaa
open Go.Dbr
set_option maxRecDepth 100000
set_option maxHeartbeats 2000000
set_option linter.unusedVariables false
set_option linter.unusedSimpArgs false

abbrev pt (b : Nat) : Value := .pointer (some (Addr.mk b 0 none))
abbrev ni (n : Nat) : Value := .int .i64 (n : Int)
abbrev Bs := List UInt8
/-- so many bytes are taken from the front; short: there are fewer -/
def tkS (n : Nat) (l : Bs) (s : Bool) : Bool := s || decide (l.length < n)
def tkO (n : Nat) (l : Bs) (s : Bool) : Bs := bif tkS n l s then [] else List.take n l
def tkR (n : Nat) (l : Bs) (s : Bool) : Bs := bif tkS n l s then [] else List.drop n l
theorem tk_s {n : Nat} {l : Bs} {s : Bool} (h : s = true) : tkS n l s = true := by rw [tkS, h]; rfl
theorem tk_n {n : Nat} {l : Bs} {s : Bool} (h : l.length < n) : tkS n l s = true := by rw [tkS, decide_eq_true h, Bool.or_true]
theorem tk_y {n : Nat} {l : Bs} {s : Bool} (h1 : ¬ s = true) (h : ¬ l.length < n) : tkS n l s = false := by rw [tkS, decide_eq_false h, Bool.eq_false_iff.2 h1]; rfl
theorem tkO_len (n : Nat) (l : Bs) (s : Bool) : (tkO n l s).length ≤ n := by
  unfold tkO
  cases tkS n l s with
  | true => exact Nat.zero_le _
  | false => rw [Bool.cond_false, List.length_take]; omega
theorem tkR_len (n : Nat) (l : Bs) (s : Bool) : (tkR n l s).length ≤ l.length := by
  unfold tkR
  cases tkS n l s with
  | true => exact Nat.zero_le _
  | false => rw [Bool.cond_false, List.length_drop]; omega
/-- the number of bytes, the highest first -/
def beV (l : Bs) : Nat := l.foldl (fun v b => v * 256 + b.toNat) 0
theorem beV_snoc (l : Bs) (b : UInt8) : beV (l ++ [b]) = beV l * 256 + b.toNat := by rw [beV, List.foldl_append]; rfl
theorem beV_take {l : Bs} {j : Nat} (h : j < l.length) : beV (List.take (j + 1) l) = beV (List.take j l) * 256 + (List.getD l j 0).toNat := by
  rw [List.take_add_one, List.getElem?_eq_getElem h, Option.toList_some, beV_snoc, List.getD_eq_getElem?_getD, List.getElem?_eq_getElem h]
  rfl
theorem beV_lt : ∀ (k : Nat) (l : Bs), l.length = k → beV l < 256 ^ k
  | 0, l, h => by rw [List.length_eq_zero_iff.1 h]; decide
  | k + 1, l, h => by
    have e : l = List.take k l ++ [List.getD l k 0] := by
      rw [List.getD_eq_getElem?_getD, List.getElem?_eq_getElem (by omega)]
      show l = List.take k l ++ [l[k]]
      rw [List.take_append_getElem, List.take_of_length_le (by omega)]
    have ih := beV_lt k (List.take k l) (by rw [List.length_take]; omega)
    rw [e, beV_snoc, Nat.pow_succ]
    have := (List.getD l k 0).toNat_lt
    omega
theorem beV_4 {l : Bs} (h : l.length ≤ 4) : beV l < 4294967296 := Nat.lt_of_lt_of_le (beV_lt _ l rfl) (Nat.pow_le_pow_right (by decide) h : 256 ^ l.length ≤ 256 ^ 4)
def nbV (n : Nat) (l : Bs) (s : Bool) : Nat := beV (tkO n l s)
theorem nbV_4 {n : Nat} (h : n ≤ 4) (l : Bs) (s : Bool) : nbV n l s < 4294967296 := beV_4 (Nat.le_trans (tkO_len n l s) h)
theorem u8_lt (b : UInt8) : b.toNat < 256 := b.toNat_lt

theorem take_go (w : World) (br : Nat) (n : Nat) (hn : n ≤ 9223372036854775807) (a : Option Addr) (c : Nat) (l : List UInt8) (s o : Bool) (i : InB w [.box br [.slice a (List.length l) c, .bool s, .bool o] 120] a c l) (hH : Heap w [.box br [.slice a (List.length l) c, .bool s, .bool o] 120]) : Calls Try.prog 104 #[pt br, ni n] w fun e w' => ∃ ra rc ta tc, e = .returned (.slice ra (List.length (tkO n l s)) rc) ∧ Ev w [.box br [.slice a (List.length l) c, .bool s, .bool o] 120] w' [.box br [.slice ta (List.length (tkR n l s)) tc, .bool (tkS n l s), .bool o] 120] ∧ Sub a c l ra rc (tkO n l s) ∧ Sub a c l ta tc (tkR n l s) := by
 refine d_0 [(0, pt br), (1, ni n)] 42 Go.Proofs.Try.func104 Go.Proofs.Try.ntmps104 (hH) fun act0 En0 Hv0 => ?_
 refine d_s [0,1,4] [] En0 fun ac1 En2 => ?_
 refine wp_seq ?_
 refine wp_seq ?_
 refine region_from ?_
 refine d_k [0,1,4,8] [] 3 En2 fun ac3 En4 => ?_
 refine f_o ?_
 refine m_l 0 En4 Hv0 fun ac5 En6 => ?_
 refine d_k [0,1,4,10] [] 5 En6 fun ac7 En8 => ?_
 rcases Bool.eq_false_or_eq_true (s) with hb9 | hb9
 ·
  have En10 := En8.fx (t := 10) (congrArg Value.bool hb9)
  have hp11 : s = true := hb9
  refine d_e [0,1,4,18] [] En10 fun ac12 En13 => ?_
  refine then_normal ?_
  refine c_t En13 ?_
  refine wp_seq ?_
  refine region_from ?_
  refine d_k [0,1,4,20,22] [] 4 En13 fun ac14 En15 => ?_
  refine f_o ?_
  refine m_s 0 [.box br [.slice a (List.length l) c, .bool true, .bool o] 120] En15 Hv0 fun ac16 wo17 En18 Hv19 => ?_
  refine d_k [0,1,4,24] [] 7 En18 fun ac20 En21 => ?_
  refine f_o ?_
  refine m_s 0 [.box br [.slice none 0 0, .bool true, .bool o] 120] En21 Hv19 fun ac22 wo23 En24 Hv25 => ?_
  refine f_e ?_
  refine then_normal ?_
  refine d_s [0,1,4] [] En24 fun ac26 En27 => ?_
  refine wp_ret ?_
  refine then_ret ?_
  refine d_ret1 (t := 4) (v := .slice none 0 0) En27 (by kernel_rfl) (by kernel_rfl) ?_
  have eS : tkS n l s = true := by first | exact tk_s (by assumption) | exact tk_n (by omega)
  rw [tkO, tkR, eS]
  exact ⟨none, 0, none, 0, rfl, Hv25.pk [0], Sub.nil, Sub.nil⟩
 ·
  have En28 := En8.fx (t := 10) (congrArg Value.bool hb9)
  have hp29 : ¬ (s = true) := Bool.eq_false_iff.1 hb9
  refine d_k [0,1,4,10,11,14] [] 9 En28 fun ac30 En31 => ?_
  refine f_o ?_
  refine m_l 0 En31 Hv0 fun ac32 En33 => ?_
  refine d_e [0,1,4,18] [] En33 fun ac34 En35 => ?_
  refine then_normal ?_
  refine c_d (((n : Nat) : Int) > ((List.length l : Nat) : Int)) En35 (fun hc36 => ?_) (fun hc36 => ?_)
  ·
   refine wp_seq ?_
   refine region_from ?_
   refine d_k [0,1,4,20,22] [] 4 En35 fun ac37 En38 => ?_
   refine f_o ?_
   refine m_s 0 [.box br [.slice a (List.length l) c, .bool true, .bool o] 120] En38 Hv0 fun ac39 wo40 En41 Hv42 => ?_
   refine d_k [0,1,4,24] [] 7 En41 fun ac43 En44 => ?_
   refine f_o ?_
   refine m_s 0 [.box br [.slice none 0 0, .bool true, .bool o] 120] En44 Hv42 fun ac45 wo46 En47 Hv48 => ?_
   refine f_e ?_
   refine then_normal ?_
   refine d_s [0,1,4] [] En47 fun ac49 En50 => ?_
   refine wp_ret ?_
   refine then_ret ?_
   refine d_ret1 (t := 4) (v := .slice none 0 0) En50 (by kernel_rfl) (by kernel_rfl) ?_
   have eS : tkS n l s = true := by first | exact tk_s (by assumption) | exact tk_n (by omega)
   rw [tkO, tkR, eS]
   exact ⟨none, 0, none, 0, rfl, Hv48.pk [0], Sub.nil, Sub.nil⟩
  ·
   refine wp_skip ?_
   refine then_normal ?_
   refine wp_seq ?_
   refine region_from ?_
   refine d_k [0,1,4,27] [] 3 En35 fun ac51 En52 => ?_
   refine f_o ?_
   refine m_l 0 En52 Hv0 fun ac53 En54 => ?_
   refine d_k [0,1,4,28,29,30] [] 6 En54 fun ac55 En56 => ?_
   refine f_o ?_
   have hcap57 := i.cap
   refine op_val (d := some 31) (x := Instr.sliceAt 23 (.slice a (List.length l) c) none (some (ni n)) (some (ni n))) (v := .slice a n n) En56 (by kernel_rfl) (run_slicemx (e := 5) (sz := 1) (by kernel_rfl) (by kernel_rfl) a (List.length l) c n (by omega) .i64 .i64 _) ?_
   intro ac58 En59
   refine d_e [0,1,4,5] [] En59 fun ac60 En61 => ?_
   refine then_normal ?_
   refine wp_seq ?_
   refine region_from ?_
   refine d_k [0,1,4,5,32,35] [] 4 En61 fun ac62 En63 => ?_
   refine f_o ?_
   refine m_l 0 En63 Hv0 fun ac64 En65 => ?_
   refine d_k [0,1,4,5,32,36,37] [] 6 En65 fun ac66 En67 => ?_
   refine f_o ?_
   have hcap68 := i.cap
   refine op_slice (d := some 38) (t := 23) (e := 5) (sz := 1) (len := List.length l) (cap := c) (lo := n) (hi := List.length l) (ao := a) (lov := (some (ni n))) (hiv := none) En67 (by kernel_rfl) (by kernel_rfl) (by kernel_rfl) (by omega) (by omega) (.inr ⟨.i64, rfl⟩) (.inl ⟨rfl, rfl⟩) ?_
   intro ac69 En70
   refine d_k [0,1,4,5,38,40] [] 9 En70 fun ac71 En72 => ?_
   refine f_o ?_
   refine m_s 0 [.box br [.slice (cutAt a c n 1) ((List.length l) - n) (c - n), .bool s, .bool o] 120] En72 Hv0 fun ac73 wo74 En75 Hv76 => ?_
   refine f_e ?_
   refine then_normal ?_
   refine d_s [0,1,4] [] En75 fun ac77 En78 => ?_
   refine wp_ret ?_
   refine d_ret1 (t := 4) (v := .slice a n n) En78 (by kernel_rfl) (by kernel_rfl) ?_
   have eS : tkS n l s = false := tk_y (by assumption) (by omega)
   rw [tkO, tkR, eS, Bool.cond_false, Bool.cond_false]
   have hz := eS
   rw [show List.length l - n = List.length (List.drop n l) from List.length_drop.symm] at Hv76
   have es : s = false := Bool.eq_false_iff.2 (by assumption)
   subst es
   exact ⟨a, n, cutAt a c n 1, c - n, by rw [List.length_take, Nat.min_eq_left (by omega)], Hv76.pk [0], sub_mx n (by omega), sub_drop n (by omega)⟩

theorem number_go (w : World) (br : Nat) (n : Nat) (hn : n ≤ 4) (a : Option Addr) (c : Nat) (l : List UInt8) (s o : Bool) (i : InB w [.box br [.slice a (List.length l) c, .bool s, .bool o] 120] a c l) (hH : Heap w [.box br [.slice a (List.length l) c, .bool s, .bool o] 120]) : Calls Try.prog 102 #[pt br, ni n] w fun e w' => ∃ ta tc, e = .returned (.int .i64 ((nbV n l s : Nat) : Int)) ∧ Ev w [.box br [.slice a (List.length l) c, .bool s, .bool o] 120] w' [.box br [.slice ta (List.length (tkR n l s)) tc, .bool (tkS n l s), .bool o] 120] ∧ Sub a c l ta tc (tkR n l s) := by
 refine d_0 [(0, pt br), (1, ni n)] 23 Go.Proofs.Try.func102 Go.Proofs.Try.ntmps102 (hH) fun act0 En0 Hv0 => ?_
 refine d_s [0,1,4] [] En0 fun ac1 En2 => ?_
 refine d_s [0,1,4,5] [] En2 fun ac3 En4 => ?_
 refine wp_seq ?_
 refine wp_seq ?_
 refine region_from ?_
 refine d_k [4,5,8,9] [] 2 En4 fun ac5 En6 => ?_
 refine f_o ?_
 refine c_l [0] (M := [.box br [.slice a (List.length l) c, .bool s, .bool o] 120]) En6 Hv0 (fun hM13 => take_go _ br n (by omega) a c l s o ((i.ev Hv0).pick [0] (by kernel_rfl)) hM13) ?_
 rintro _ wo14 ⟨ra7, rc8, ta9, tc10, rfl, he15, hs11, hs12⟩
 refine ⟨_, _, [.box br [.slice ta9 (List.length (tkR n l s)) tc10, .bool (tkS n l s), .bool o] 120], rfl, he15, by kernel_rfl, fun ac17 En18 Hv19 => ?_⟩
 refine d_e [4,5,10,11,12] [] En18 fun ac20 En21 => ?_
 have hO := tkO_len n l s
 refine then_normal ?_
 refine wp_block ?_
 refine loop_m (fun ms22 ac wo => ∃ (j : Nat) (v : Nat), ms22 = (List.length (tkO n l s) - j : Nat) ∧ Env ac 23 [(4, .int .i64 0), (5, ni v), (10, .slice ra7 (List.length (tkO n l s)) rc8), (11, .int .i64 ((List.length (tkO n l s) : Nat) : Int)), (12, ni j)] ∧ Ev w [.box br [.slice a (List.length l) c, .bool s, .bool o] 120] wo [.box br [.slice ta9 (List.length (tkR n l s)) tc10, .bool (tkS n l s), .bool o] 120] ∧ (j ≤ List.length (tkO n l s)) ∧ (v = beV (List.take j (tkO n l s))) ∧ (v < 4294967296)) ⟨_, 0, 0, rfl, En21.sb, Hv19.pk [0], (by omega), rfl, (by omega)⟩ ?_
 rintro mm28 ac24 wo25 ⟨j, v, rfl, En26, Hv27, hj, hv, hb⟩
 refine d_s [4,5,10,11,12,13] [] En26 fun ac29 En30 => ?_
 refine wp_seq ?_
 refine c_d (((j : Nat) : Int) < ((List.length (tkO n l s) : Nat) : Int)) En30 (fun hc31 => ?_) (fun hc31 => ?_)
 ·
  refine wp_skip ?_
  refine then_normal ?_
  refine wp_seq ?_
  refine wp_block ?_
  have hb34 : j < List.length (tkO n l s) := (by omega)
  obtain ⟨adr32, had33⟩ := some_of ((hs11 _ [] ((i.ev Hv27).pick [] (by kernel_rfl)))).nz hb34
  refine wp_seq ?_
  refine region_from ?_
  refine f_o ?_
  refine q_v (x := Instr.indexAt 23 (.slice ra7 (List.length (tkO n l s)) rc8) (ni j)) (v := .pointer (some (Addr.add adr32 j))) En30 (Go.Dbr.run_indexsl (e := 5) (sz := 1) (j := j) (jo := j) had33 (by kernel_rfl) (by kernel_rfl) (by omega) hb34 (Nat.mul_one _) _) fun ac35 En36 => ?_
  refine f_o ?_
  have hb37 : j < List.length (tkO n l s) := by omega
  refine op_loadel (d := some 15) (t := 5) (ad := adr32) (ao := ra7) (xs := bys (tkO n l s)) (j := j) (v := .int .u8 ((UInt8.toNat (List.getD (tkO n l s) j 0) : Nat) : Int)) En36 (by kernel_rfl) ((hs11 _ [] ((i.ev Hv27).pick [] (by kernel_rfl)))).reads had33 (bys_getD hb37) (by kernel_rfl) ?_
  intro ac38 En39
  refine d_e [4,5,7,10,11,12] [] En39 fun ac40 En41 => ?_
  have hub := u8_lt (List.getD (tkO n l s) j 0)
  refine then_normal ?_
  refine d_r [4,5,10,11,12] [(1, g_n (w_r (e := ((v : Nat) : Int) * 2 ^ 8) (x := ((v * 256 : Nat) : Int)) (by omega))), (3, g_i .i64 (Go.Dbr.u8_to_i64 (x := List.getD (tkO n l s) j 0) rfl)), (4, g_i .i64 (Go.Dbr.i64_or_low (x := v) (y := UInt8.toNat (List.getD (tkO n l s) j 0)) 8 (by omega) (by omega)))] En41 fun ac42 En43 => ?_
  refine block_normal ?_
  refine then_normal ?_
  refine d_r [4,5,10,11,12] [(0, g_n (w_a j 1))] En43 fun ac44 En45 => ?_
  refine then_normal ?_
  refine ⟨_, ⟨j + 1, v * 256 + (UInt8.toNat (List.getD (tkO n l s) j 0)), rfl, En45.sb, Hv27.pk [0], (by omega), (by rw [hv]; exact (beV_take (by omega)).symm), (by have h4 := beV_4 (l := List.take (j + 1) (tkO n l s)) (by rw [List.length_take]; omega); rw [beV_take (by omega), ← hv] at h4; exact h4)⟩, ?_⟩
  omega
 ·
  refine wp_exit ?_
  refine then_exit ?_
  refine then_exit ?_
  refine block_exit ?_
  refine then_normal ?_
  refine d_s [4,5,10,11,12] [] En30 fun ac46 En47 => ?_
  refine wp_ret ?_
  refine d_ret1 (t := 4) (v := ni v) En47 (by kernel_rfl) (by kernel_rfl) ?_
  have hje : List.take j (tkO n l s) = tkO n l s := List.take_of_length_le (by omega)
  rw [hje] at hv
  exact ⟨ta9, tc10, by rw [hv]; rfl, Hv27.pk [0], hs12⟩

theorem clone_go (w : World) (a : Option Addr) (c : Nat) (l : List UInt8) (i : InB w [] a c l) : Calls Try.prog 103 #[.slice a (List.length l) c] w fun e w' => ∃ ao cap, e = .returned (.slice ao (List.length l) cap) ∧ Ev w [] w' [.vec ao cap 1 (bys l) 5] := by
 refine d_0 [(0, .slice a (List.length l) c)] 8 Go.Proofs.Try.func103 Go.Proofs.Try.ntmps103 (Heap.nil _) fun act0 En0 Hv0 => ?_
 refine d_s [0,2] [] En0 fun ac1 En2 => ?_
 refine wp_seq ?_
 refine wp_seq ?_
 refine region_from ?_
 refine d_k [0,2,3] [] 1 En2 fun ac3 En4 => ?_
 refine f_o ?_
 refine q_v (x := binOp .eql 23 (.slice a (List.length l) c) (.slice none 0 0)) (v := .bool (Option.isNone a)) En4 (Go.Dbr.run_slicenil (e := 5) (by kernel_rfl) a (List.length l) c _) fun ac5 En6 => ?_
 refine f_e ?_
 refine then_normal ?_
 refine cond_at En6 (t := Option.isNone a) (by kernel_rfl) (fun hc7 => ?_) (fun hc7 => ?_)
 ·
  replace hc7 : Option.isNone a = true := hc7
  refine d_s [0,2] [] En6 fun ac8 En9 => ?_
  refine wp_ret ?_
  refine then_ret ?_
  refine d_ret1 (t := 2) (v := .slice none 0 0) En9 (by kernel_rfl) (by kernel_rfl) ?_
  have hl0 : l = [] := List.length_eq_zero_iff.1 (i.nz (Option.isNone_iff_eq_none.1 hc7))
  subst hl0
  exact ⟨none, 0, rfl, (Ev.nil (sz := 1) (T := 5) Hv0).pk [0]⟩
 ·
  replace hc7 : ¬ (Option.isNone a = true) := Bool.eq_false_iff.1 hc7
  refine wp_skip ?_
  refine then_normal ?_
  refine wp_seq ?_
  refine region_from ?_
  refine f_o ?_
  refine op_lit (d := some 5) (t := 23) (T := 5) (m := 0) (parts := #[]) (xs := bys []) (sz := 1) En6 (by kernel_rfl) (by kernel_rfl) rfl (by decide) Hv0 ?_
  intro ac11 wo12 bk10 En13 Hv14
  refine d_k [0,2,5,6] [] 2 En13 fun ac15 En16 => ?_
  refine f_o ?_
  have hsm17 := i.small
  refine op_append (d := some 7) (t := 23) (tx := 23) (ty := 23) (k := 0) (p := 0) (m := List.length l) (x := .slice a (List.length l) c) (bytes := 1) En16 (by kernel_rfl) Hv14 rfl rfl (Reads.src (size := 1) (tx := 23) (e' := 5) (by kernel_rfl) (i.ev Hv14).reads (bys_len _) i.nz (bys_one _)) (by kernel_rfl) (z := .int .u8 0) (by kernel_rfl) rfl (by decide) (by have := i.small; omega) (by unfold maxLen; omega) ?_
  intro ac22 wo23 ao18 cp19 En24 Hv25 hnz _
  clear hnz
  rw [bys_nil_append] at Hv25
  have ehz20 : 0 + (List.length l) = List.length l := (by first | (simp; done) | (simp; omega) | omega)
  rw [ehz20] at En24
  refine d_e [0,2] [] En24 fun ac26 En27 => ?_
  refine then_normal ?_
  refine wp_ret ?_
  refine d_ret1 (t := 2) (v := .slice ao18 (List.length l) cp19) En27 (by kernel_rfl) (by kernel_rfl) ?_
  exact ⟨ao18, cp19, rfl, Hv25.pk [0]⟩

def lsT (n x y : Nat) (l : Bs) (s : Bool) : Bool := tkS n l s || (decide (nbV n l s < x) || decide (y < nbV n l s))
def lsO (n x y : Nat) (l : Bs) (s : Bool) : Bs := tkO (nbV n l s) (tkR n l s) (lsT n x y l s)
def lsR (n x y : Nat) (l : Bs) (s : Bool) : Bs := tkR (nbV n l s) (tkR n l s) (lsT n x y l s)
def lsS (n x y : Nat) (l : Bs) (s : Bool) : Bool := tkS (nbV n l s) (tkR n l s) (lsT n x y l s)
theorem lsT_1 {n x y : Nat} {l : Bs} {s : Bool} (h : nbV n l s < x) : lsT n x y l s = true := by rw [lsT, decide_eq_true h, Bool.true_or, Bool.or_true]
theorem lsT_2 {n x y : Nat} {l : Bs} {s : Bool} (h : y < nbV n l s) : lsT n x y l s = true := by rw [lsT, decide_eq_true h, Bool.or_true, Bool.or_true]
theorem lsT_0 {n x y : Nat} {l : Bs} {s : Bool} (h1 : ¬ nbV n l s < x) (h2 : ¬ y < nbV n l s) : lsT n x y l s = tkS n l s := by rw [lsT, decide_eq_false h1, decide_eq_false h2, Bool.or_false, Bool.or_false]
theorem lsR_len (n x y : Nat) (l : Bs) (s : Bool) : (lsR n x y l s).length ≤ l.length := Nat.le_trans (tkR_len _ _ _) (tkR_len _ _ _)

theorem list_go (w : World) (br : Nat) (n : Nat) (hn : n ≤ 4) (x y : Nat) (hx : x ≤ 4294967295) (hy : y ≤ 4294967295) (a : Option Addr) (c : Nat) (l : List UInt8) (s o : Bool) (i : InB w [.box br [.slice a (List.length l) c, .bool s, .bool o] 120] a c l) (hH : Heap w [.box br [.slice a (List.length l) c, .bool s, .bool o] 120]) : Calls Try.prog 137 #[pt br, ni n, ni x, ni y] w fun e w' => ∃ ao cap ta tc, e = .returned (.slice ao (List.length (lsO n x y l s)) cap) ∧ Ev w [.box br [.slice a (List.length l) c, .bool s, .bool o] 120] w' [.box br [.slice ta (List.length (lsR n x y l s)) tc, .bool (lsS n x y l s), .bool o] 120, .vec ao cap 1 (bys (lsO n x y l s)) 5] ∧ Sub a c l ta tc (lsR n x y l s) := by
 refine d_0 [(0, pt br), (1, ni n), (2, ni x), (3, ni y)] 28 Go.Proofs.Try.func137 Go.Proofs.Try.ntmps137 (hH) fun act0 En0 Hv0 => ?_
 refine d_s [0,1,2,3,8] [] En0 fun ac1 En2 => ?_
 refine wp_seq ?_
 refine region_from ?_
 refine d_k [0,2,3,8,10,11] [] 2 En2 fun ac3 En4 => ?_
 refine f_o ?_
 refine c_l [0] (M := [.box br [.slice a (List.length l) c, .bool s, .bool o] 120]) En4 Hv0 (fun hM8 => number_go _ br n (by omega) a c l s o ((i.ev Hv0).pick [0] (by kernel_rfl)) hM8) ?_
 rintro _ wo9 ⟨ta5, tc6, rfl, he10, hs7⟩
 refine ⟨_, _, [.box br [.slice ta5 (List.length (tkR n l s)) tc6, .bool (tkS n l s), .bool o] 120], rfl, he10, by kernel_rfl, fun ac12 En13 Hv14 => ?_⟩
 refine d_e [0,2,3,8,9] [] En13 fun ac15 En16 => ?_
 have hk4 := nbV_4 hn l s
 refine then_normal ?_
 refine wp_seq ?_
 refine wp_seq ?_
 refine region_from ?_
 refine d_k [0,3,8,9,16] [] 4 En16 fun ac17 En18 => ?_
 rcases Bool.eq_false_or_eq_true (decide (((nbV n l s : Nat) : Int) < ((x : Nat) : Int))) with hb19 | hb19
 ·
  have En20 := En18.fx (t := 16) (congrArg Value.bool hb19)
  have hp21 : ((nbV n l s : Nat) : Int) < ((x : Nat) : Int) := of_decide_eq_true hb19
  refine d_e [0,8,9,20] [] En20 fun ac22 En23 => ?_
  refine then_normal ?_
  refine c_t En23 ?_
  refine region_from ?_
  refine d_k [0,8,9,23] [] 3 En23 fun ac24 En25 => ?_
  refine f_o ?_
  refine m_s 0 [.box br [.slice ta5 (List.length (tkR n l s)) tc6, .bool true, .bool o] 120] En25 Hv14 fun ac26 wo27 En28 Hv29 => ?_
  refine f_e ?_
  refine then_normal ?_
  refine wp_seq ?_
  refine region_from ?_
  refine d_k [0,8,9,24,25] [] 2 En28 fun ac30 En31 => ?_
  refine f_o ?_
  refine c_l [0] (M := [.box br [.slice ta5 (List.length (tkR n l s)) tc6, .bool true, .bool o] 120]) En31 Hv29 (fun hM38 => take_go _ br (nbV n l s) (by omega) ta5 tc6 (tkR n l s) true o (hs7 _ _ ((i.ev Hv29).pick [0] (by kernel_rfl))) hM38) ?_
  rintro _ wo39 ⟨ra32, rc33, ta34, tc35, rfl, he40, hs36, hs37⟩
  refine ⟨_, _, [.box br [.slice ta34 (List.length (tkR (nbV n l s) (tkR n l s) true)) tc35, .bool (tkS (nbV n l s) (tkR n l s) true), .bool o] 120], rfl, he40, by kernel_rfl, fun ac42 En43 Hv44 => ?_⟩
  refine f_o ?_
  refine c_0 En43 Hv44 (clone_go _ ra32 rc33 (tkO (nbV n l s) (tkR n l s) true) (hs36 _ [] (hs7 _ [] ((i.ev Hv44).pick [] (by kernel_rfl))))) ?_
  rintro _ wo48 ⟨ao45, cp46, rfl, he49⟩
  refine ⟨_, _, _, rfl, he49, rfl, fun ac51 En52 Hv53 => ?_⟩
  refine d_e [0,8,9] [] En52 fun ac54 En55 => ?_
  refine then_normal ?_
  refine wp_ret ?_
  refine d_ret1 (t := 8) (v := .slice ao45 (List.length (tkO (nbV n l s) (tkR n l s) true)) cp46) En55 (by kernel_rfl) (by kernel_rfl) ?_
  have eT : lsT n x y l s = true := by first | exact lsT_1 (by omega) | exact lsT_2 (by omega) | exact lsT_0 (by omega) (by omega)
  simp only [lsO, lsR, lsS, eT]
  exact ⟨ao45, cp46, ta34, tc35, rfl, Hv53.pk [1, 0], (hs7.trans hs37)⟩
 ·
  have En56 := En18.fx (t := 16) (congrArg Value.bool hb19)
  have hp57 : ¬ (((nbV n l s : Nat) : Int) < ((x : Nat) : Int)) := of_decide_eq_false hb19
  refine d_e [0,8,9,20] [] En56 fun ac58 En59 => ?_
  refine then_normal ?_
  refine c_d (((nbV n l s : Nat) : Int) > ((y : Nat) : Int)) En59 (fun hc60 => ?_) (fun hc60 => ?_)
  ·
   refine region_from ?_
   refine d_k [0,8,9,23] [] 3 En59 fun ac61 En62 => ?_
   refine f_o ?_
   refine m_s 0 [.box br [.slice ta5 (List.length (tkR n l s)) tc6, .bool true, .bool o] 120] En62 Hv14 fun ac63 wo64 En65 Hv66 => ?_
   refine f_e ?_
   refine then_normal ?_
   refine wp_seq ?_
   refine region_from ?_
   refine d_k [0,8,9,24,25] [] 2 En65 fun ac67 En68 => ?_
   refine f_o ?_
   refine c_l [0] (M := [.box br [.slice ta5 (List.length (tkR n l s)) tc6, .bool true, .bool o] 120]) En68 Hv66 (fun hM75 => take_go _ br (nbV n l s) (by omega) ta5 tc6 (tkR n l s) true o (hs7 _ _ ((i.ev Hv66).pick [0] (by kernel_rfl))) hM75) ?_
   rintro _ wo76 ⟨ra69, rc70, ta71, tc72, rfl, he77, hs73, hs74⟩
   refine ⟨_, _, [.box br [.slice ta71 (List.length (tkR (nbV n l s) (tkR n l s) true)) tc72, .bool (tkS (nbV n l s) (tkR n l s) true), .bool o] 120], rfl, he77, by kernel_rfl, fun ac79 En80 Hv81 => ?_⟩
   refine f_o ?_
   refine c_0 En80 Hv81 (clone_go _ ra69 rc70 (tkO (nbV n l s) (tkR n l s) true) (hs73 _ [] (hs7 _ [] ((i.ev Hv81).pick [] (by kernel_rfl))))) ?_
   rintro _ wo85 ⟨ao82, cp83, rfl, he86⟩
   refine ⟨_, _, _, rfl, he86, rfl, fun ac88 En89 Hv90 => ?_⟩
   refine d_e [0,8,9] [] En89 fun ac91 En92 => ?_
   refine then_normal ?_
   refine wp_ret ?_
   refine d_ret1 (t := 8) (v := .slice ao82 (List.length (tkO (nbV n l s) (tkR n l s) true)) cp83) En92 (by kernel_rfl) (by kernel_rfl) ?_
   have eT : lsT n x y l s = true := by first | exact lsT_1 (by omega) | exact lsT_2 (by omega) | exact lsT_0 (by omega) (by omega)
   simp only [lsO, lsR, lsS, eT]
   exact ⟨ao82, cp83, ta71, tc72, rfl, Hv90.pk [1, 0], (hs7.trans hs74)⟩
  ·
   refine wp_skip ?_
   refine then_normal ?_
   refine wp_seq ?_
   refine region_from ?_
   refine d_k [0,8,9,24,25] [] 2 En59 fun ac93 En94 => ?_
   refine f_o ?_
   refine c_l [0] (M := [.box br [.slice ta5 (List.length (tkR n l s)) tc6, .bool (tkS n l s), .bool o] 120]) En94 Hv14 (fun hM101 => take_go _ br (nbV n l s) (by omega) ta5 tc6 (tkR n l s) (tkS n l s) o (hs7 _ _ ((i.ev Hv14).pick [0] (by kernel_rfl))) hM101) ?_
   rintro _ wo102 ⟨ra95, rc96, ta97, tc98, rfl, he103, hs99, hs100⟩
   refine ⟨_, _, [.box br [.slice ta97 (List.length (tkR (nbV n l s) (tkR n l s) (tkS n l s))) tc98, .bool (tkS (nbV n l s) (tkR n l s) (tkS n l s)), .bool o] 120], rfl, he103, by kernel_rfl, fun ac105 En106 Hv107 => ?_⟩
   refine f_o ?_
   refine c_0 En106 Hv107 (clone_go _ ra95 rc96 (tkO (nbV n l s) (tkR n l s) (tkS n l s)) (hs99 _ [] (hs7 _ [] ((i.ev Hv107).pick [] (by kernel_rfl))))) ?_
   rintro _ wo111 ⟨ao108, cp109, rfl, he112⟩
   refine ⟨_, _, _, rfl, he112, rfl, fun ac114 En115 Hv116 => ?_⟩
   refine d_e [0,8,9] [] En115 fun ac117 En118 => ?_
   refine then_normal ?_
   refine wp_ret ?_
   refine d_ret1 (t := 8) (v := .slice ao108 (List.length (tkO (nbV n l s) (tkR n l s) (tkS n l s))) cp109) En118 (by kernel_rfl) (by kernel_rfl) ?_
   have eT : lsT n x y l s = tkS n l s := by first | exact lsT_1 (by omega) | exact lsT_2 (by omega) | exact lsT_0 (by omega) (by omega)
   simp only [lsO, lsR, lsS, eT]
   exact ⟨ao108, cp109, ta97, tc98, rfl, Hv116.pk [1, 0], (hs7.trans hs100)⟩

end Go.Proofs.Ytofecellbfhnjaa

/- Layer 17: the document's readers. -/

namespace Go.Proofs.Ytofecellbfhnjaa
open Go.Dbr
set_option maxRecDepth 100000
set_option maxHeartbeats 2000000
set_option linter.unusedVariables false
set_option linter.unusedSimpArgs false

def endV (s : Bool) (n : Nat) (o : Bool) : Int := if s = true ∨ 0 < n then 50 else if o = true then 47 else 0
theorem end_1 {s : Bool} {n : Nat} {o : Bool} (h : s = true) : (50 : Int) = endV s n o := by rw [endV, if_pos (.inl h)]
theorem end_2 {s : Bool} {n : Nat} {o : Bool} (h : 0 < n) : (50 : Int) = endV s n o := by rw [endV, if_pos (.inr h)]
theorem end_3 {s : Bool} {n : Nat} {o : Bool} (h : ¬ s = true) (h2 : ¬ 0 < n) (h3 : o = true) : (47 : Int) = endV s n o := by rw [endV, if_neg (fun g => g.elim h h2), if_pos h3]
theorem end_4 {s : Bool} {n : Nat} {o : Bool} (h : ¬ s = true) (h2 : ¬ 0 < n) (h3 : ¬ o = true) : (0 : Int) = endV s n o := by rw [endV, if_neg (fun g => g.elim h h2), if_neg h3]

end Go.Proofs.Ytofecellbfhnjaa

/- Slices of structs that are made; parts of a list that are read one by one. -/

namespace Go.Dbr
open Go Go.RowKit
section
variable {α : Type}
theorem sv_len {f : α → List Value} {sz : Nat} (hf : ∀ x, (f x).length = sz) : ∀ l : List α, (l.flatMap f).length = l.length * sz
  | [] => by simp
  | y :: r => by rw [List.flatMap_cons, List.length_append, hf, sv_len hf r, List.length_cons, Nat.succ_mul, Nat.add_comm]
theorem flat_one {f : α → List Value} (hf : ∀ x, ∀ u ∈ f x, u.oneCell' = true) (l : List α) : ∀ u ∈ l.flatMap f, u.oneCell' = true := fun u hu => by
  obtain ⟨x, _, hx⟩ := List.mem_flatMap.1 hu
  exact hf x u hx

/-! parts, one by one -/
abbrev PS := List UInt8 × Bool × Bool
def mnf (one : List UInt8 → Bool → Bool → α × PS) : Nat → PS → List α × PS
  | 0, p => ([], p)
  | f + 1, p => if p.2.1 = true ∨ p.1 = [] then ([], p) else ((one p.1 p.2.1 p.2.2).1 :: (mnf one f (one p.1 p.2.1 p.2.2).2).1, (mnf one f (one p.1 p.2.1 p.2.2).2).2)
def mn (one : List UInt8 → Bool → Bool → α × PS) (p : PS) : List α × PS := mnf one p.1.length p
/-- each part takes something -/
structure Dec (one : List UInt8 → Bool → Bool → α × PS) : Prop where
  lt : ∀ l o, l ≠ [] → (one l false o).2.2.1 = false → (one l false o).2.1.length < l.length
  le : ∀ l o, (one l false o).2.1.length ≤ l.length
variable {one : List UInt8 → Bool → Bool → α × PS}
theorem mnf_end {p : PS} (h : p.2.1 = true ∨ p.1 = []) : ∀ f, mnf one f p = ([], p)
  | 0 => rfl
  | f + 1 => by rw [mnf, if_pos h]
theorem mnf_any (D : Dec one) : ∀ (n : Nat) (p : PS), p.1.length ≤ n → ∀ f g, p.1.length ≤ f → p.1.length ≤ g → mnf one f p = mnf one g p
  | n, p, hn, f, g, hf, hg => by
    by_cases h : p.2.1 = true ∨ p.1 = []
    · rw [mnf_end h, mnf_end h]
    · have hs : p.2.1 = false := by
        cases e : p.2.1 with
        | true => exact absurd (.inl e) h
        | false => rfl
      have hl : p.1 ≠ [] := fun e => h (.inr e)
      have h0 : 0 < p.1.length := List.length_pos_iff.2 hl
      match n, f, g, hn, hf, hg with
      | 0, _, _, hn, _, _ => omega
      | n + 1, 0, _, _, hf, _ => omega
      | n + 1, f + 1, 0, _, _, hg => omega
      | n + 1, f + 1, g + 1, hn, hf, hg =>
        rw [mnf, mnf, if_neg h, if_neg h]
        have key : mnf one f (one p.1 p.2.1 p.2.2).2 = mnf one g (one p.1 p.2.1 p.2.2).2 := by
          rw [hs]
          by_cases hq : (one p.1 false p.2.2).2.2.1 = true
          · rw [mnf_end (.inl hq), mnf_end (.inl hq)]
          · have := D.lt p.1 p.2.2 hl (Bool.eq_false_iff.2 hq)
            exact mnf_any D n _ (by omega) f g (by omega) (by omega)
        rw [key]
theorem mn_end {p : PS} (h : p.2.1 = true ∨ p.1 = []) : mn one p = ([], p) := mnf_end h _
theorem mn_step (D : Dec one) {l : List UInt8} {s o : Bool} (hs : s = false) (h0 : 0 < l.length) : mn one (l, s, o) = ((one l s o).1 :: (mn one (one l s o).2).1, (mn one (one l s o).2).2) := by
  subst hs
  have hl : l ≠ [] := List.length_pos_iff.1 h0
  have hn : ¬ (((l, false, o) : PS).2.1 = true ∨ ((l, false, o) : PS).1 = []) := fun g => g.elim (fun e => by cases e) hl
  have e : mn one (l, false, o) = mnf one ((l.length - 1) + 1) (l, false, o) := by
    show mnf one l.length (l, false, o) = _
    rw [show l.length - 1 + 1 = l.length by omega]
  rw [e, mnf, if_neg hn]
  have key : mnf one (l.length - 1) (one l false o).2 = mn one (one l false o).2 := by
    by_cases hq : (one l false o).2.2.1 = true
    · rw [mnf_end (.inl hq), mn_end (.inl hq)]
    · have := D.lt l o hl (Bool.eq_false_iff.2 hq)
      exact mnf_any D _ _ (Nat.le_refl _) _ _ (by omega) (Nat.le_refl _)
  show ((one l false o).1 :: (mnf one (l.length - 1) (one l false o).2).1, (mnf one (l.length - 1) (one l false o).2).2) = _
  rw [key]
end
end Go.Dbr

/- Layer 17: many parts, one by one; numbers. -/


namespace Go.Proofs.Ytofecellbfhnjaa
open Go.Dbr
set_option maxRecDepth 100000
set_option maxHeartbeats 2000000
set_option linter.unusedVariables false
set_option linter.unusedSimpArgs false

abbrev RU16 := UInt16
abbrev fU16 : RU16 → List Value := (fun n : UInt16 => [uv16 n])
def listM (n x y : Nat) (l : Bs) (s o : Bool) : Bs × PS := (lsO n x y l s, lsR n x y l s, lsS n x y l s, o)
def u16M (l : Bs) (s o : Bool) : UInt16 × PS := (UInt16.ofNat (nbV 2 l s), tkR 2 l s, tkS 2 l s, o)
theorem tk_lt {n : Nat} (hn : 0 < n) {l : Bs} (h : l ≠ []) : (tkR n l false).length < l.length := by
  have h0 : 0 < l.length := List.length_pos_iff.2 h
  unfold tkR
  cases tkS n l false with
  | true => exact h0
  | false => rw [Bool.cond_false, List.length_drop]; omega
theorem u16_dec : Dec u16M := ⟨fun l _ h _ => tk_lt (by decide) h, fun l _ => tkR_len _ _ _⟩
theorem u16_go (w : World) (br : Nat) (a : Option Addr) (c : Nat) (l : List UInt8) (s o : Bool) (i : InB w [.box br [.slice a (List.length l) c, .bool s, .bool o] 120] a c l) (hH : Heap w [.box br [.slice a (List.length l) c, .bool s, .bool o] 120]) : Calls Try.prog 148 #[pt br] w fun e w' => ∃ ta tc, e = .returned (.int .u16 ((UInt16.toNat (UInt16.ofNat (nbV 2 l s)) : Nat) : Int)) ∧ Ev w [.box br [.slice a (List.length l) c, .bool s, .bool o] 120] w' [.box br [.slice ta (List.length (tkR 2 l s)) tc, .bool (tkS 2 l s), .bool o] 120] ∧ Sub a c l ta tc (tkR 2 l s) := by
 refine d_0 [(0, pt br)] 6 Go.Proofs.Try.func148 Go.Proofs.Try.ntmps148 (hH) fun act0 En0 Hv0 => ?_
 refine d_s [0,2] [] En0 fun ac1 En2 => ?_
 refine wp_seq ?_
 refine region_from ?_
 refine d_k [2,3] [] 1 En2 fun ac3 En4 => ?_
 refine f_o ?_
 refine c_l [0] (M := [.box br [.slice a (List.length l) c, .bool s, .bool o] 120]) En4 Hv0 (fun hM8 => number_go _ br 2 (by omega) a c l s o ((i.ev Hv0).pick [0] (by kernel_rfl)) hM8) ?_
 rintro _ wo9 ⟨ta5, tc6, rfl, he10, hs7⟩
 refine ⟨_, _, [.box br [.slice ta5 (List.length (tkR 2 l s)) tc6, .bool (tkS 2 l s), .bool o] 120], rfl, he10, by kernel_rfl, fun ac12 En13 Hv14 => ?_⟩
 refine d_e [2] [(2, g_i .u16 (Go.Dbr.nat_to_u16 (a := ((nbV 2 l s : Nat) : Int)) (n := nbV 2 l s) rfl))] En13 fun ac15 En16 => ?_
 refine then_normal ?_
 refine wp_ret ?_
 refine d_ret1 (t := 2) (v := .int .u16 ((UInt16.toNat (UInt16.ofNat (nbV 2 l s)) : Nat) : Int)) En16 (by kernel_rfl) (by kernel_rfl) ?_
 exact ⟨ta5, tc6, rfl, Hv14.pk [0], hs7⟩

theorem dec_lt {α : Type} {one : Bs → Bool → Bool → α × PS} (D : Dec one) {l : Bs} {s o : Bool} (hs : s = false) (h0 : 0 < l.length) : (one l s o).2.2.1 = false → (one l s o).2.1.length < l.length := by
  subst hs
  exact D.lt l o (List.length_pos_iff.1 h0)
theorem dec_le {α : Type} {one : Bs → Bool → Bool → α × PS} (D : Dec one) {l : Bs} {s o : Bool} (hs : s = false) : (one l s o).2.1.length ≤ l.length := by
  subst hs
  exact D.le l o
theorem mn_mu {s1 s2 : Bool} {n m : Nat} (hs : s1 = false) (h0 : 0 < n) (h : s2 = false → m < n) : (bif s2 then 0 else m + 1) < (bif s1 then 0 else n + 1) := by
  subst hs
  cases s2 with
  | true => exact Nat.succ_pos _
  | false => exact Nat.succ_lt_succ (h rfl)
theorem mn_ct {α : Type} {xs : List α} {y : α} {s1 s2 : Bool} {n m N : Nat} (hs : s1 = false) (hc : xs.length + n ≤ N + (bif s1 then 1 else 0)) (h : s2 = false → m < n) (h2 : m ≤ n) (h0 : 0 < n) : (xs ++ [y]).length + m ≤ N + (bif s2 then 1 else 0) := by
  subst hs
  rw [List.length_append, List.length_singleton]
  cases s2 with
  | true => simp only [Bool.cond_true, Bool.cond_false] at *; omega
  | false => have := h rfl; simp only [Bool.cond_false] at *; omega
theorem mn_b1 (s : Bool) : (bif s then 1 else 0) ≤ 1 := by cases s <;> decide
theorem mn_c1 {n m N : Nat} {s1 : Bool} (h : n + m ≤ N + (bif s1 then 1 else 0)) : n ≤ N + 1 := by
  cases s1 with
  | true => simp only [Bool.cond_true] at h; omega
  | false => simp only [Bool.cond_false] at h; omega

theorem many_u16 (w : World) (br : Nat) (n : Nat) (hn : n ≤ 4) (x : Nat) (hx : x ≤ 4294967295) (a : Option Addr) (c : Nat) (l : List UInt8) (s o : Bool) (i : InB w [.box br [.slice a (List.length l) c, .bool s, .bool o] 120] a c l) (hH : Heap w [.box br [.slice a (List.length l) c, .bool s, .bool o] 120]) : Calls Try.prog 147 #[pt br, ni n, ni x, .func (.func 148) #[] #[]] w fun e w' => ∃ ta tc oa oc xs, e = .returned (.slice oa (List.length xs) oc) ∧ Ev w [.box br [.slice a (List.length l) c, .bool s, .bool o] 120] w' [.box br [.slice ta (List.length (lsR n x 16777215 l s)) tc, .bool (lsS n x 16777215 l s || (mn u16M ((lsO n x 16777215 l s, lsS n x 16777215 l s, false) : PS)).2.2.1), .bool (o || (mn u16M ((lsO n x 16777215 l s, lsS n x 16777215 l s, false) : PS)).2.2.2)] 120, .vec oa oc 1 (List.flatMap fU16 xs) 37] ∧ Sub a c l ta tc (lsR n x 16777215 l s) ∧ List.map (fun y : RU16 => y) xs = (mn u16M ((lsO n x 16777215 l s, lsS n x 16777215 l s, false) : PS)).1 ∧ List.length xs ≤ List.length (lsO n x 16777215 l s) + 1 := by
 refine d_0 [(0, pt br), (1, ni n), (2, ni x), (3, .func (.func 148) #[] #[])] 69 Go.Proofs.Try.func147 Go.Proofs.Try.ntmps147 (hH) fun act0 En0 Hv0 => ?_
 refine d_s [0,1,2,3,8] [] En0 fun ac1 En2 => ?_
 refine wp_seq ?_
 refine region_from ?_
 refine d_k [0,3,8,12,13,14] [] 3 En2 fun ac3 En4 => ?_
 refine f_o ?_
 refine c_l [0] (M := [.box br [.slice a (List.length l) c, .bool s, .bool o] 120]) En4 Hv0 (fun hM10 => list_go _ br n (by omega) x 16777215 (by omega) (by omega) a c l s o ((i.ev Hv0).pick [0] (by kernel_rfl)) hM10) ?_
 rintro _ wo11 ⟨ao5, cp6, ta7, tc8, rfl, he12, hs9⟩
 refine ⟨_, _, [.box br [.slice ta7 (List.length (lsR n x 16777215 l s)) tc8, .bool (lsS n x 16777215 l s), .bool o] 120, .vec ao5 cp6 1 (bys (lsO n x 16777215 l s)) 5], rfl, he12, by kernel_rfl, fun ac14 En15 Hv16 => ?_⟩
 refine d_e [0,3,8,9] [] En15 fun ac17 En18 => ?_
 refine then_normal ?_
 refine wp_seq ?_
 refine region_from ?_
 refine d_k [0,3,8,16,19] [] 4 En18 fun ac19 En20 => ?_
 refine f_o ?_
 refine m_l 0 En20 Hv16 fun ac21 En22 => ?_
 refine d_k [0,3,8,21] [] 6 En22 fun ac23 En24 => ?_
 refine f_o ?_
 refine m_m 120 [.slice ao5 (List.length (lsO n x 16777215 l s)) cp6, .bool (lsS n x 16777215 l s), .bool false] En24 Hv16 fun ac26 wo27 bk25 En28 Hv29 => ?_
 refine d_e [0,3,8,10] [] En28 fun ac30 En31 => ?_
 refine then_normal ?_
 refine d_s [0,3,8,10,11] [] En31 fun ac32 En33 => ?_
 refine wp_seq ?_
 refine region_cut (F := fun ac wo => ∃ (oa : Option Addr) (oc : Nat) (xs : List (RU16)) (ra : Option Addr) (rc : Nat) (rl : Bs) (s1 : Bool) (o1 : Bool), Env ac 69 [(0, pt br), (3, .func (.func 148) #[] #[]), (8, .slice none 0 0), (10, pt bk25), (11, .slice oa (List.length xs) oc)] ∧ Ev w [.box br [.slice a (List.length l) c, .bool s, .bool o] 120] wo [.box br [.slice ta7 (List.length (lsR n x 16777215 l s)) tc8, .bool (lsS n x 16777215 l s), .bool o] 120, .box bk25 [.slice ra (List.length rl) rc, .bool s1, .bool o1] 120, .vec oa oc 1 (List.flatMap fU16 xs) 37] ∧ (mn u16M ((lsO n x 16777215 l s, lsS n x 16777215 l s, false) : PS) = (List.map (fun y : RU16 => y) xs, rl, s1, o1)) ∧ (List.length xs ≤ List.length (lsO n x 16777215 l s) + 1)) ?_ ?_
 ·
  refine wp_block ?_
  have Hv34 : Ev w [.box br [.slice a (List.length l) c, .bool s, .bool o] 120] wo27 [.box br [.slice ta7 (List.length (lsR n x 16777215 l s)) tc8, .bool (lsS n x 16777215 l s), .bool o] 120, .vec ao5 cp6 1 (bys (lsO n x 16777215 l s)) 5, .box bk25 [.slice ao5 (List.length (lsO n x 16777215 l s)) cp6, .bool (lsS n x 16777215 l s), .bool false] 120, .vec none 0 1 (List.flatMap fU16 []) 37] := Ev.nil (sz := 1) (T := 37) Hv29
  have hO32 : List.length (lsO n x 16777215 l s) ≤ 4294967295 := Nat.le_trans (tkO_len _ _ _) (Nat.le_of_lt_succ (nbV_4 hn l s))
  refine loop_m (fun ms35 ac wo => ∃ (oa : Option Addr) (oc : Nat) (xs : List (RU16)) (ra : Option Addr) (rc : Nat) (rl : Bs) (s1 : Bool) (o1 : Bool), ms35 = (bif s1 then 0 else List.length rl + 1 : Nat) ∧ Env ac 69 [(0, pt br), (3, .func (.func 148) #[] #[]), (8, .slice none 0 0), (10, pt bk25), (11, .slice oa (List.length xs) oc)] ∧ Ev w [.box br [.slice a (List.length l) c, .bool s, .bool o] 120] wo [.box bk25 [.slice ra (List.length rl) rc, .bool s1, .bool o1] 120, .box br [.slice ta7 (List.length (lsR n x 16777215 l s)) tc8, .bool (lsS n x 16777215 l s), .bool o] 120, .vec ao5 cp6 1 (bys (lsO n x 16777215 l s)) 5, .vec oa oc 1 (List.flatMap fU16 xs) 37] ∧ (Sub ao5 cp6 (lsO n x 16777215 l s) ra rc rl) ∧ (mn u16M ((lsO n x 16777215 l s, lsS n x 16777215 l s, false) : PS) = (List.map (fun y : RU16 => y) xs ++ (mn u16M (rl, s1, o1)).1, (mn u16M (rl, s1, o1)).2)) ∧ (List.length xs + List.length rl ≤ List.length (lsO n x 16777215 l s) + (bif s1 then 1 else 0))) ⟨_, none, 0, [], ao5, cp6, (lsO n x 16777215 l s), (lsS n x 16777215 l s), false, rfl, En33.sb, Hv34.pk [2, 0, 1, 3], Sub.self, rfl, (by rw [List.length_nil, Nat.zero_add]; exact Nat.le_add_right _ _)⟩ ?_
  rintro mm41 ac37 wo38 ⟨oa, oc, xs, ra, rc, rl, s1, o1, rfl, En39, Hv40, hsu, hmn, hct⟩
  refine wp_seq ?_
  refine wp_seq ?_
  refine region_from ?_
  refine d_k [0,3,8,10,11,25] [] 3 En39 fun ac42 En43 => ?_
  refine f_o ?_
  refine m_l 0 En43 Hv40 fun ac44 En45 => ?_
  refine d_k [0,3,8,10,11,28] [] 6 En45 fun ac46 En47 => ?_
  rcases Bool.eq_false_or_eq_true (!s1) with hb48 | hb48
  ·
   have En49 := En47.fx (t := 28) (congrArg Value.bool hb48)
   have hp50 : ¬ (s1 = true) := by simpa using hb48
   refine d_k [0,3,8,10,11,28,31] [] 9 En49 fun ac51 En52 => ?_
   refine f_o ?_
   refine m_l 0 En52 Hv40 fun ac53 En54 => ?_
   refine d_e [0,3,8,10,11,35] [] En54 fun ac55 En56 => ?_
   refine then_normal ?_
   refine c_d (((List.length rl : Nat) : Int) > (0 : Int)) En56 (fun hc57 => ?_) (fun hc57 => ?_)
   ·
    refine wp_skip ?_
    refine then_normal ?_
    refine wp_block ?_
    refine region_from ?_
    refine d_k [0,3,8,10,11,36,37,38] [] 3 En56 fun ac58 En59 => ?_
    refine f_o ?_
    refine c_l [0] (M := [.box bk25 [.slice ra (List.length rl) rc, .bool s1, .bool o1] 120]) En59 Hv40 (fun hM63 => u16_go _ bk25 ra rc rl s1 o1 (hsu _ _ (bys_in Hv40.heap (k := 2) rfl [0] (by kernel_rfl) rfl (by first | omega | (simp; done) | (simp; omega)))) hM63) ?_
    rintro _ wo64 ⟨ta60, tc61, rfl, he65, hs62⟩
    refine ⟨_, _, [.box bk25 [.slice ta60 (List.length (tkR 2 rl s1)) tc61, .bool (tkS 2 rl s1), .bool o1] 120, .box br [.slice ta7 (List.length (lsR n x 16777215 l s)) tc8, .bool (lsS n x 16777215 l s), .bool o] 120, .vec ao5 cp6 1 (bys (lsO n x 16777215 l s)) 5, .vec oa oc 1 (List.flatMap fU16 xs) 37], rfl, he65, by kernel_rfl, fun ac67 En68 Hv69 => ?_⟩
    refine f_o ?_
    refine op_lit (d := some 40) (t := 32) (T := 37) (m := 1) (parts := #[(0, .int .u16 ((UInt16.toNat (UInt16.ofNat (nbV 2 rl s1)) : Nat) : Int))]) (xs := List.flatMap fU16 ([UInt16.ofNat (nbV 2 rl s1)] : List (RU16))) (sz := 1) En68 (by kernel_rfl) (by kernel_rfl) rfl (by decide) Hv69 ?_
    intro ac71 wo72 bk70 En73 Hv74
    refine f_o ?_
    refine op_append (d := some 41) (t := 32) (tx := 32) (ty := 32) (k := 3) (p := List.length xs) (m := 1) (x := .slice (some ⟨bk70, 0, none⟩) 1 1) (bytes := 2) En73 (by kernel_rfl) Hv74 rfl (sv_len (f := fU16) (sz := 1) (fun _ => rfl) _) (Reads.src (size := 1) (tx := 32) (e' := 37) (by kernel_rfl) (Hv74.heap.reads (k := 4) rfl) rfl (fun e => by cases e) (flat_one (f := fU16) (fun _ => one_all rfl) _)) (by kernel_rfl) (z := .int .u16 0) (by kernel_rfl) rfl (by decide) (by have hb1 := mn_b1 s1; omega) (by unfold maxLen; have hb1 := mn_b1 s1; omega) ?_
    intro ac79 wo80 ao75 cp76 En81 Hv82 hnz _
    clear hnz
    rw [← List.flatMap_append] at Hv82
    have ehz77 : (List.length xs) + 1 = List.length (xs ++ ([UInt16.ofNat (nbV 2 rl s1)] : List (RU16))) := (by first | (simp; done) | (simp; omega) | omega)
    rw [ehz77] at En81
    refine d_e [0,3,8,10,11] [] En81 fun ac83 En84 => ?_
    refine block_normal ?_
    refine then_normal ?_
    have hl0 : 0 < List.length rl := by omega
    refine ⟨_, ⟨ao75, cp76, (xs ++ ([UInt16.ofNat (nbV 2 rl s1)] : List (RU16))), ta60, tc61, (tkR 2 rl s1), (tkS 2 rl s1), o1, rfl, En84.sb, Hv82.pk [0, 1, 2, 3], (hsu.trans hs62), (by rw [hmn, mn_step u16_dec (Bool.eq_false_iff.2 hp50) hl0, List.map_append, List.append_assoc]; rfl), (mn_ct (Bool.eq_false_iff.2 hp50) hct (dec_lt (o := o1) u16_dec (Bool.eq_false_iff.2 hp50) hl0) (dec_le (o := o1) u16_dec (Bool.eq_false_iff.2 hp50)) hl0)⟩, ?_⟩
    exact mn_mu (Bool.eq_false_iff.2 hp50) hl0 (dec_lt (o := o1) u16_dec (Bool.eq_false_iff.2 hp50) hl0)
   ·
    refine wp_exit ?_
    refine then_exit ?_
    refine then_exit ?_
    refine block_exit ?_
    exact ⟨rfl, ⟨oa, oc, xs, ra, rc, rl, s1, o1, En56.sb, Hv40.pk [1, 0, 3], (by rw [hmn, mn_end (p := (rl, s1, o1)) (by first | exact .inl (by assumption) | exact .inr (show rl = [] from List.length_eq_zero_iff.1 (by omega))), List.append_nil]), (mn_c1 hct)⟩⟩
  ·
   have En85 := En47.fx (t := 28) (congrArg Value.bool hb48)
   have hp86 : s1 = true := by simpa using hb48
   refine d_e [0,3,8,10,11,35] [] En85 fun ac87 En88 => ?_
   refine then_normal ?_
   refine c_f En88 ?_
   refine wp_exit ?_
   refine then_exit ?_
   refine then_exit ?_
   refine block_exit ?_
   exact ⟨rfl, ⟨oa, oc, xs, ra, rc, rl, s1, o1, En88.sb, Hv40.pk [1, 0, 3], (by rw [hmn, mn_end (p := (rl, s1, o1)) (by first | exact .inl (by assumption) | exact .inr (show rl = [] from List.length_eq_zero_iff.1 (by omega))), List.append_nil]), (mn_c1 hct)⟩⟩
 ·
  rintro ac89 wo90 ⟨oa, oc, xs, ra, rc, rl, s1, o1, En91, Hv92, hmn, hct⟩
  refine then_normal ?_
  refine wp_seq ?_
  rcases Bool.eq_false_or_eq_true (lsS n x 16777215 l s) with hb93 | hb93
  ·
   have hb93p : lsS n x 16777215 l s = true := hb93
   rcases Bool.eq_false_or_eq_true (o) with hb94 | hb94
   ·
    have hb94p : o = true := hb94
    refine r_c (fun ac wo => Env ac 69 [(0, pt br), (3, .func (.func 148) #[] #[]), (8, .slice none 0 0), (10, pt bk25), (11, .slice oa (List.length xs) oc)] ∧ Ev w [.box br [.slice a (List.length l) c, .bool s, .bool o] 120] wo [.box br [.slice ta7 (List.length (lsR n x 16777215 l s)) tc8, .bool true, .bool true] 120, .box bk25 [.slice ra (List.length rl) rc, .bool s1, .bool o1] 120, .vec oa oc 1 (List.flatMap fU16 xs) 37]) ?_ ?_
    ·
     refine h_s (fun wv => Ev w [.box br [.slice a (List.length l) c, .bool s, .bool o] 120] wv [.box br [.slice ta7 (List.length (lsR n x 16777215 l s)) tc8, .bool (lsS n x 16777215 l s), .bool o] 120]) [24] 28 ?_
     have wo95 := Hv92.trans (Ev.drew Hv92.heap)
     refine q_s [0,1,2,3,4] [] 23 En91 (wo95.pk [0]) fun ac176 En177 => ?_
     refine q_l 0 5 En177 (wo95.pk [0]) fun ac178 En179 => ?_
     refine q_s [6] [] 21 En179 (wo95.pk [0]) fun ac180 En181 => ?_
     have En182 := En181.fx (t := 47) (congrArg Value.bool hb93)
     have En183 := En182.fx (t := 48) (congrArg Value.bool hb93)
     refine q_s [7,8,9,10,11,12,13,14] [] 13 En183 (wo95.pk [0]) fun ac184 En185 => ?_
     refine q_l 0 15 En185 (wo95.pk [0]) fun ac186 En187 => ?_
     refine q_s [16] [] 11 En187 (wo95.pk [0]) fun ac188 En189 => ?_
     have En190 := En189.fx (t := 57) (congrArg Value.bool hb94)
     have En191 := En190.fx (t := 58) (congrArg Value.bool hb94)
     refine q_s [17,18,19,20,21,22,23] [] 4 En191 (wo95.pk [0]) fun ac192 En193 => ?_
     refine q_t 24 ?_
     refine m_s 0 [.box br [.slice ta7 (List.length (lsR n x 16777215 l s)) tc8, .bool true, .bool o] 120, .box bk25 [.slice ra (List.length rl) rc, .bool s1, .bool o1] 120, .vec oa oc 1 (List.flatMap fU16 xs) 37] En193 wo95 fun ac194 wo195 En196 Hv197 => ?_
     refine ⟨q_y, ?_⟩
     refine q_n [25,26] [] 1 En196 fun ac198 En199 => ?_
     refine q_t 27 ?_
     refine m_s 0 [.box br [.slice ta7 (List.length (lsR n x 16777215 l s)) tc8, .bool true, .bool true] 120, .box bk25 [.slice ra (List.length rl) rc, .bool s1, .bool o1] 120, .vec oa oc 1 (List.flatMap fU16 xs) 37] En199 Hv197 fun ac200 wo201 En202 Hv203 => ?_
     refine ⟨q_y, ?_⟩
     exact h_e ⟨En202.sb, Hv203.pk [0, 1, 2]⟩
    rintro ac204 wo205 ⟨En206, Hv207⟩
    refine then_normal ?_
    refine d_s [0,3,8,10,11] [] En206 fun ac208 En209 => ?_
    refine wp_ret ?_
    refine d_ret1 (t := 8) (v := .slice oa (List.length xs) oc) En209 (by kernel_rfl) (by kernel_rfl) ?_
    have e1 : (lsS n x 16777215 l s || s1) = true := by rw [hb93]; rfl
    have e2 : (o || o1) = true := by rw [hb94]; rfl
    have hfin : Ev w [.box br [.slice a (List.length l) c, .bool s, .bool o] 120] wo205 [.box br [.slice ta7 (List.length (lsR n x 16777215 l s)) tc8, .bool (lsS n x 16777215 l s || s1), .bool (o || o1)] 120, .vec oa oc 1 (List.flatMap fU16 xs) 37] := by rw [e1, e2]; exact Hv207.pk [0, 2]
    exact ⟨ta7, tc8, oa, oc, xs, rfl, by rw [hmn]; exact hfin, hs9, by rw [hmn], hct⟩
   ·
    have hb94p : ¬ (o = true) := Bool.eq_false_iff.1 hb94
    refine r_c (fun ac wo => Env ac 69 [(0, pt br), (3, .func (.func 148) #[] #[]), (8, .slice none 0 0), (10, pt bk25), (11, .slice oa (List.length xs) oc)] ∧ Ev w [.box br [.slice a (List.length l) c, .bool s, .bool o] 120] wo [.box br [.slice ta7 (List.length (lsR n x 16777215 l s)) tc8, .bool true, .bool o1] 120, .box bk25 [.slice ra (List.length rl) rc, .bool s1, .bool o1] 120, .vec oa oc 1 (List.flatMap fU16 xs) 37]) ?_ ?_
    ·
     refine h_s (fun wv => Ev w [.box br [.slice a (List.length l) c, .bool s, .bool o] 120] wv [.box br [.slice ta7 (List.length (lsR n x 16777215 l s)) tc8, .bool (lsS n x 16777215 l s), .bool o] 120, .box bk25 [.slice ra (List.length rl) rc, .bool s1, .bool o1] 120]) [24] 28 ?_
     have wo210 := Hv92.trans (Ev.drew Hv92.heap)
     refine q_s [0,1,2,3,4] [] 23 En91 (wo210.pk [0, 1]) fun ac303 En304 => ?_
     refine q_l 0 5 En304 (wo210.pk [0, 1]) fun ac305 En306 => ?_
     refine q_s [6] [] 21 En306 (wo210.pk [0, 1]) fun ac307 En308 => ?_
     have En309 := En308.fx (t := 47) (congrArg Value.bool hb93)
     have En310 := En309.fx (t := 48) (congrArg Value.bool hb93)
     refine q_s [7,8,9,10,11,12,13,14] [] 13 En310 (wo210.pk [0, 1]) fun ac311 En312 => ?_
     refine q_l 0 15 En312 (wo210.pk [0, 1]) fun ac313 En314 => ?_
     refine q_s [16] [] 11 En314 (wo210.pk [0, 1]) fun ac315 En316 => ?_
     have En317 := En316.fx (t := 57) (congrArg Value.bool hb94)
     have En318 := En317.fx (t := 58) (congrArg Value.bool hb94)
     refine q_s [17,18,19] [] 8 En318 (wo210.pk [0, 1]) fun ac319 En320 => ?_
     refine q_l 1 20 En320 (wo210.pk [0, 1]) fun ac321 En322 => ?_
     refine q_s [21,22,23] [] 4 En322 (wo210.pk [0, 1]) fun ac323 En324 => ?_
     refine q_t 24 ?_
     refine m_s 0 [.box br [.slice ta7 (List.length (lsR n x 16777215 l s)) tc8, .bool true, .bool o] 120, .box bk25 [.slice ra (List.length rl) rc, .bool s1, .bool o1] 120, .vec oa oc 1 (List.flatMap fU16 xs) 37] En324 wo210 fun ac325 wo326 En327 Hv328 => ?_
     refine ⟨q_y, ?_⟩
     refine q_n [25,26] [] 1 En327 fun ac329 En330 => ?_
     refine q_t 27 ?_
     refine m_s 0 [.box br [.slice ta7 (List.length (lsR n x 16777215 l s)) tc8, .bool true, .bool o1] 120, .box bk25 [.slice ra (List.length rl) rc, .bool s1, .bool o1] 120, .vec oa oc 1 (List.flatMap fU16 xs) 37] En330 Hv328 fun ac331 wo332 En333 Hv334 => ?_
     refine ⟨q_y, ?_⟩
     exact h_e ⟨En333.sb, Hv334.pk [0, 1, 2]⟩
    rintro ac335 wo336 ⟨En337, Hv338⟩
    refine then_normal ?_
    refine d_s [0,3,8,10,11] [] En337 fun ac339 En340 => ?_
    refine wp_ret ?_
    refine d_ret1 (t := 8) (v := .slice oa (List.length xs) oc) En340 (by kernel_rfl) (by kernel_rfl) ?_
    have e1 : (lsS n x 16777215 l s || s1) = true := by rw [hb93]; rfl
    have e2 : (o || o1) = o1 := by rw [hb94]; rfl
    have hfin : Ev w [.box br [.slice a (List.length l) c, .bool s, .bool o] 120] wo336 [.box br [.slice ta7 (List.length (lsR n x 16777215 l s)) tc8, .bool (lsS n x 16777215 l s || s1), .bool (o || o1)] 120, .vec oa oc 1 (List.flatMap fU16 xs) 37] := by rw [e1, e2]; exact Hv338.pk [0, 2]
    exact ⟨ta7, tc8, oa, oc, xs, rfl, by rw [hmn]; exact hfin, hs9, by rw [hmn], hct⟩
  ·
   have hb93p : ¬ (lsS n x 16777215 l s = true) := Bool.eq_false_iff.1 hb93
   rcases Bool.eq_false_or_eq_true (o) with hb341 | hb341
   ·
    have hb341p : o = true := hb341
    refine r_c (fun ac wo => Env ac 69 [(0, pt br), (3, .func (.func 148) #[] #[]), (8, .slice none 0 0), (10, pt bk25), (11, .slice oa (List.length xs) oc)] ∧ Ev w [.box br [.slice a (List.length l) c, .bool s, .bool o] 120] wo [.box br [.slice ta7 (List.length (lsR n x 16777215 l s)) tc8, .bool s1, .bool true] 120, .box bk25 [.slice ra (List.length rl) rc, .bool s1, .bool o1] 120, .vec oa oc 1 (List.flatMap fU16 xs) 37]) ?_ ?_
    ·
     refine h_s (fun wv => Ev w [.box br [.slice a (List.length l) c, .bool s, .bool o] 120] wv [.box br [.slice ta7 (List.length (lsR n x 16777215 l s)) tc8, .bool (lsS n x 16777215 l s), .bool o] 120, .box bk25 [.slice ra (List.length rl) rc, .bool s1, .bool o1] 120]) [24] 28 ?_
     have wo342 := Hv92.trans (Ev.drew Hv92.heap)
     refine q_s [0,1,2,3,4] [] 23 En91 (wo342.pk [0, 1]) fun ac457 En458 => ?_
     refine q_l 0 5 En458 (wo342.pk [0, 1]) fun ac459 En460 => ?_
     refine q_s [6] [] 21 En460 (wo342.pk [0, 1]) fun ac461 En462 => ?_
     have En463 := En462.fx (t := 47) (congrArg Value.bool hb93)
     have En464 := En463.fx (t := 48) (congrArg Value.bool hb93)
     refine q_s [7,8,9] [] 18 En464 (wo342.pk [0, 1]) fun ac465 En466 => ?_
     refine q_l 1 10 En466 (wo342.pk [0, 1]) fun ac467 En468 => ?_
     refine q_s [11,12,13,14] [] 13 En468 (wo342.pk [0, 1]) fun ac469 En470 => ?_
     refine q_l 0 15 En470 (wo342.pk [0, 1]) fun ac471 En472 => ?_
     refine q_s [16] [] 11 En472 (wo342.pk [0, 1]) fun ac473 En474 => ?_
     have En475 := En474.fx (t := 57) (congrArg Value.bool hb341)
     have En476 := En475.fx (t := 58) (congrArg Value.bool hb341)
     refine q_s [17,18,19,20,21,22,23] [] 4 En476 (wo342.pk [0, 1]) fun ac477 En478 => ?_
     refine q_t 24 ?_
     refine m_s 0 [.box br [.slice ta7 (List.length (lsR n x 16777215 l s)) tc8, .bool s1, .bool o] 120, .box bk25 [.slice ra (List.length rl) rc, .bool s1, .bool o1] 120, .vec oa oc 1 (List.flatMap fU16 xs) 37] En478 wo342 fun ac479 wo480 En481 Hv482 => ?_
     refine ⟨q_y, ?_⟩
     refine q_n [25,26] [] 1 En481 fun ac483 En484 => ?_
     refine q_t 27 ?_
     refine m_s 0 [.box br [.slice ta7 (List.length (lsR n x 16777215 l s)) tc8, .bool s1, .bool true] 120, .box bk25 [.slice ra (List.length rl) rc, .bool s1, .bool o1] 120, .vec oa oc 1 (List.flatMap fU16 xs) 37] En484 Hv482 fun ac485 wo486 En487 Hv488 => ?_
     refine ⟨q_y, ?_⟩
     exact h_e ⟨En487.sb, Hv488.pk [0, 1, 2]⟩
    rintro ac489 wo490 ⟨En491, Hv492⟩
    refine then_normal ?_
    refine d_s [0,3,8,10,11] [] En491 fun ac493 En494 => ?_
    refine wp_ret ?_
    refine d_ret1 (t := 8) (v := .slice oa (List.length xs) oc) En494 (by kernel_rfl) (by kernel_rfl) ?_
    have e1 : (lsS n x 16777215 l s || s1) = s1 := by rw [hb93]; rfl
    have e2 : (o || o1) = true := by rw [hb341]; rfl
    have hfin : Ev w [.box br [.slice a (List.length l) c, .bool s, .bool o] 120] wo490 [.box br [.slice ta7 (List.length (lsR n x 16777215 l s)) tc8, .bool (lsS n x 16777215 l s || s1), .bool (o || o1)] 120, .vec oa oc 1 (List.flatMap fU16 xs) 37] := by rw [e1, e2]; exact Hv492.pk [0, 2]
    exact ⟨ta7, tc8, oa, oc, xs, rfl, by rw [hmn]; exact hfin, hs9, by rw [hmn], hct⟩
   ·
    have hb341p : ¬ (o = true) := Bool.eq_false_iff.1 hb341
    refine r_c (fun ac wo => Env ac 69 [(0, pt br), (3, .func (.func 148) #[] #[]), (8, .slice none 0 0), (10, pt bk25), (11, .slice oa (List.length xs) oc)] ∧ Ev w [.box br [.slice a (List.length l) c, .bool s, .bool o] 120] wo [.box br [.slice ta7 (List.length (lsR n x 16777215 l s)) tc8, .bool s1, .bool o1] 120, .box bk25 [.slice ra (List.length rl) rc, .bool s1, .bool o1] 120, .vec oa oc 1 (List.flatMap fU16 xs) 37]) ?_ ?_
    ·
     refine h_s (fun wv => Ev w [.box br [.slice a (List.length l) c, .bool s, .bool o] 120] wv [.box br [.slice ta7 (List.length (lsR n x 16777215 l s)) tc8, .bool (lsS n x 16777215 l s), .bool o] 120, .box bk25 [.slice ra (List.length rl) rc, .bool s1, .bool o1] 120]) [24] 28 ?_
     have wo495 := Hv92.trans (Ev.drew Hv92.heap)
     refine q_s [0,1,2,3,4] [] 23 En91 (wo495.pk [0, 1]) fun ac630 En631 => ?_
     refine q_l 0 5 En631 (wo495.pk [0, 1]) fun ac632 En633 => ?_
     refine q_s [6] [] 21 En633 (wo495.pk [0, 1]) fun ac634 En635 => ?_
     have En636 := En635.fx (t := 47) (congrArg Value.bool hb93)
     have En637 := En636.fx (t := 48) (congrArg Value.bool hb93)
     refine q_s [7,8,9] [] 18 En637 (wo495.pk [0, 1]) fun ac638 En639 => ?_
     refine q_l 1 10 En639 (wo495.pk [0, 1]) fun ac640 En641 => ?_
     refine q_s [11,12,13,14] [] 13 En641 (wo495.pk [0, 1]) fun ac642 En643 => ?_
     refine q_l 0 15 En643 (wo495.pk [0, 1]) fun ac644 En645 => ?_
     refine q_s [16] [] 11 En645 (wo495.pk [0, 1]) fun ac646 En647 => ?_
     have En648 := En647.fx (t := 57) (congrArg Value.bool hb341)
     have En649 := En648.fx (t := 58) (congrArg Value.bool hb341)
     refine q_s [17,18,19] [] 8 En649 (wo495.pk [0, 1]) fun ac650 En651 => ?_
     refine q_l 1 20 En651 (wo495.pk [0, 1]) fun ac652 En653 => ?_
     refine q_s [21,22,23] [] 4 En653 (wo495.pk [0, 1]) fun ac654 En655 => ?_
     refine q_t 24 ?_
     refine m_s 0 [.box br [.slice ta7 (List.length (lsR n x 16777215 l s)) tc8, .bool s1, .bool o] 120, .box bk25 [.slice ra (List.length rl) rc, .bool s1, .bool o1] 120, .vec oa oc 1 (List.flatMap fU16 xs) 37] En655 wo495 fun ac656 wo657 En658 Hv659 => ?_
     refine ⟨q_y, ?_⟩
     refine q_n [25,26] [] 1 En658 fun ac660 En661 => ?_
     refine q_t 27 ?_
     refine m_s 0 [.box br [.slice ta7 (List.length (lsR n x 16777215 l s)) tc8, .bool s1, .bool o1] 120, .box bk25 [.slice ra (List.length rl) rc, .bool s1, .bool o1] 120, .vec oa oc 1 (List.flatMap fU16 xs) 37] En661 Hv659 fun ac662 wo663 En664 Hv665 => ?_
     refine ⟨q_y, ?_⟩
     exact h_e ⟨En664.sb, Hv665.pk [0, 1, 2]⟩
    rintro ac666 wo667 ⟨En668, Hv669⟩
    refine then_normal ?_
    refine d_s [0,3,8,10,11] [] En668 fun ac670 En671 => ?_
    refine wp_ret ?_
    refine d_ret1 (t := 8) (v := .slice oa (List.length xs) oc) En671 (by kernel_rfl) (by kernel_rfl) ?_
    have e1 : (lsS n x 16777215 l s || s1) = s1 := by rw [hb93]; rfl
    have e2 : (o || o1) = o1 := by rw [hb341]; rfl
    have hfin : Ev w [.box br [.slice a (List.length l) c, .bool s, .bool o] 120] wo667 [.box br [.slice ta7 (List.length (lsR n x 16777215 l s)) tc8, .bool (lsS n x 16777215 l s || s1), .bool (o || o1)] 120, .vec oa oc 1 (List.flatMap fU16 xs) 37] := by rw [e1, e2]; exact Hv669.pk [0, 2]
    exact ⟨ta7, tc8, oa, oc, xs, rfl, by rw [hmn]; exact hfin, hs9, by rw [hmn], hct⟩

end Go.Proofs.Ytofecellbfhnjaa

/- Layer 17: lists of numbers are read. -/

namespace Go.Proofs.Ytofecellbfhnjaa
open Go.Dbr
set_option maxRecDepth 100000
set_option maxHeartbeats 2000000
set_option linter.unusedVariables false
set_option linter.unusedSimpArgs false

def manyM {α : Type} (one : Bs → Bool → Bool → α × PS) (n x : Nat) (l : Bs) (s o : Bool) : List α × PS :=
  ((mn one (lsO n x 16777215 l s, lsS n x 16777215 l s, false)).1, lsR n x 16777215 l s, lsS n x 16777215 l s || (mn one (lsO n x 16777215 l s, lsS n x 16777215 l s, false)).2.2.1, o || (mn one (lsO n x 16777215 l s, lsS n x 16777215 l s, false)).2.2.2)
def gotA {α : Type} (q : α × PS) : Int := endV q.2.2.1 q.2.1.length q.2.2.2
def gotV {α : Type} (z : α) (q : α × PS) : α := if gotA q = 0 then q.1 else z
theorem gotV_0 {α : Type} {z : α} {q : α × PS} (h : gotA q = 0) : gotV z q = q.1 := by rw [gotV, if_pos h]
theorem gotV_n {α : Type} {z : α} {q : α × PS} {k : Int} (h : gotA q = k) (hk : k ≠ 0) : gotV z q = z := by rw [gotV, if_neg (by rw [h]; exact hk)]
theorem lsO_32 {n x y : Nat} (hn : n ≤ 4) (l : Bs) (s : Bool) : (lsO n x y l s).length + 1 ≤ 4294967296 := Nat.succ_le_of_lt (Nat.lt_of_le_of_lt (tkO_len _ _ _) (nbV_4 hn l s))
theorem getlist1 (w : World) (br : Nat) (a : Option Addr) (c : Nat) (l : List UInt8) (s o : Bool) (i : InB w [.box br [.slice a (List.length l) c, .bool s, .bool o] 120] a c l) (hH : Heap w [.box br [.slice a (List.length l) c, .bool s, .bool o] 120]) : Calls Try.prog 146 #[pt br] w fun e w' => ∃ ta tc oa oc xs, e = .returned (.slice oa (List.length xs) oc) ∧ Ev w [.box br [.slice a (List.length l) c, .bool s, .bool o] 120] w' [.box br [.slice ta (List.length ((manyM u16M 2 2 l s o).2.1)) tc, .bool ((manyM u16M 2 2 l s o).2.2.1), .bool ((manyM u16M 2 2 l s o).2.2.2)] 120, .vec oa oc 1 (List.flatMap fU16 xs) 37] ∧ Sub a c l ta tc (manyM u16M 2 2 l s o).2.1 ∧ List.map (fun y : RU16 => y) xs = (manyM u16M 2 2 l s o).1 ∧ List.length xs ≤ 4294967296 := by
 refine d_0 [(0, pt br)] 5 Go.Proofs.Try.func146 Go.Proofs.Try.ntmps146 (hH) fun act0 En0 Hv0 => ?_
 refine d_s [0,2] [] En0 fun ac1 En2 => ?_
 refine wp_seq ?_
 refine region_from ?_
 refine d_k [2,3] [] 1 En2 fun ac3 En4 => ?_
 refine f_o ?_
 refine c_l [0] (M := [.box br [.slice a (List.length l) c, .bool s, .bool o] 120]) En4 Hv0 (fun hM14 => many_u16 _ br 2 (by omega) 2 (by omega) a c l s o ((i.ev Hv0).pick [0] (by kernel_rfl)) hM14) ?_
 rintro _ wo15 ⟨ta5, tc6, oa7, oc8, xs9, rfl, he16, hs10, hmn11, hct12⟩
 refine ⟨_, _, [.box br [.slice ta5 (List.length (lsR 2 2 16777215 l s)) tc6, .bool (lsS 2 2 16777215 l s || (mn u16M ((lsO 2 2 16777215 l s, lsS 2 2 16777215 l s, false) : PS)).2.2.1), .bool (o || (mn u16M ((lsO 2 2 16777215 l s, lsS 2 2 16777215 l s, false) : PS)).2.2.2)] 120, .vec oa7 oc8 1 (List.flatMap fU16 xs9) 37], rfl, he16, by kernel_rfl, fun ac18 En19 Hv20 => ?_⟩
 refine d_e [2] [] En19 fun ac21 En22 => ?_
 refine then_normal ?_
 refine wp_ret ?_
 refine d_ret1 (t := 2) (v := .slice oa7 (List.length xs9) oc8) En22 (by kernel_rfl) (by kernel_rfl) ?_
 exact ⟨ta5, tc6, oa7, oc8, xs9, rfl, Hv20.pk [0, 1], hs10, hmn11, (Nat.le_trans hct12 (lsO_32 (by decide) _ _))⟩

theorem got_getlist (w : World) (a : Option Addr) (c : Nat) (l : Bs) (i : InB w [] a c l) : Calls Try.prog 145 #[.slice a (List.length l) c, .func (.func 146) #[] #[]] w fun e w' => ∃ oa oc xs, e = .returned (.tuple #[.slice oa (List.length xs) oc, .int .i64 (gotA (manyM u16M 2 2 l false false))]) ∧ Ev w [] w' [.vec oa oc 1 (List.flatMap fU16 xs) 37] ∧ List.map (fun y : RU16 => y) xs = gotV [] (manyM u16M 2 2 l false false) ∧ List.length xs ≤ 4294967296 := by
 refine d_0 [(0, .slice a (List.length l) c), (1, .func (.func 146) #[] #[])] 36 Go.Proofs.Try.func145 Go.Proofs.Try.ntmps145 (Heap.nil _) fun act0 En0 Hv0 => ?_
 refine d_s [0,1,4,5] [] En0 fun ac1 En2 => ?_
 refine d_s [0,1,4,5,6] [] En2 fun ac3 En4 => ?_
 refine wp_seq ?_
 refine region_from ?_
 refine d_k [1,4,5,6,10] [] 2 En4 fun ac5 En6 => ?_
 refine f_o ?_
 refine m_m 120 [.slice a (List.length l) c, .bool false, .bool false] En6 Hv0 fun ac8 wo9 bk7 En10 Hv11 => ?_
 refine d_e [1,4,5,6,7] [] En10 fun ac12 En13 => ?_
 refine then_normal ?_
 refine wp_seq ?_
 refine region_from ?_
 refine d_k [4,5,6,7,12,13] [] 2 En13 fun ac14 En15 => ?_
 refine f_o ?_
 refine c_l [0] (M := [.box bk7 [.slice a (List.length l) c, .bool false, .bool false] 120]) En15 Hv11 (fun hM24 => getlist1 _ bk7 a c l false false ((i.ev Hv11).pick [0] (by kernel_rfl)) hM24) ?_
 rintro _ wo25 ⟨ta16, tc17, oa20, oc21, xs22, rfl, he26, hs18, hpu19, hf23⟩
 refine ⟨_, _, [.box bk7 [.slice ta16 (List.length ((manyM u16M 2 2 l false false).2.1)) tc17, .bool ((manyM u16M 2 2 l false false).2.2.1), .bool ((manyM u16M 2 2 l false false).2.2.2)] 120, .vec oa20 oc21 1 (List.flatMap fU16 xs22) 37], rfl, he26, by kernel_rfl, fun ac28 En29 Hv30 => ?_⟩
 refine d_e [4,5,6,7,8] [] En29 fun ac31 En32 => ?_
 refine then_normal ?_
 refine wp_seq ?_
 refine wp_block ?_
 refine wp_seq ?_
 refine region_from ?_
 refine d_k [4,5,6,7,8,18] [] 3 En32 fun ac33 En34 => ?_
 refine f_o ?_
 refine m_l 0 En34 Hv30 fun ac35 En36 => ?_
 refine d_k [4,5,6,7,8,20] [] 5 En36 fun ac37 En38 => ?_
 rcases Bool.eq_false_or_eq_true ((manyM u16M 2 2 l false false).2.2.1) with hb39 | hb39
 ·
  have En40 := En38.fx (t := 20) (congrArg Value.bool hb39)
  have hp41 : (manyM u16M 2 2 l false false).2.2.1 = true := hb39
  refine d_e [4,5,6,7,8,15] [] En40 fun ac42 En43 => ?_
  refine then_normal ?_
  refine c_t En43 ?_
  refine d_s [4,5,6,7,8] [] En43 fun ac44 En45 => ?_
  refine wp_ret ?_
  refine block_ret ?_
  refine then_ret ?_
  refine d_ret2 (t := 4) (u := 5) (v := .slice none 0 0) (x := .int .i64 50) En45 (by kernel_rfl) (by kernel_rfl) (by kernel_rfl) ?_
  have eA : gotA (manyM u16M 2 2 l false false) = 50 := Eq.symm (by first | exact end_1 (by assumption) | exact end_2 (by omega) | exact end_3 (by assumption) (by omega) (by assumption))
  rw [gotV_n eA (by decide), eA]
  have Hv46 : Ev w [] wo25 [.box bk7 [.slice ta16 (List.length ((manyM u16M 2 2 l false false).2.1)) tc17, .bool ((manyM u16M 2 2 l false false).2.2.1), .bool ((manyM u16M 2 2 l false false).2.2.2)] 120, .vec oa20 oc21 1 (List.flatMap fU16 xs22) 37, .vec none 0 1 (List.flatMap fU16 []) 37] := Ev.nil (sz := 1) (T := 37) Hv30
  exact ⟨none, 0, [], rfl, Hv46.pk [2], rfl, (Nat.zero_le _)⟩
 ·
  have En47 := En38.fx (t := 20) (congrArg Value.bool hb39)
  have hp48 : ¬ ((manyM u16M 2 2 l false false).2.2.1 = true) := Bool.eq_false_iff.1 hb39
  refine d_k [4,5,6,7,8,20,23] [] 8 En47 fun ac49 En50 => ?_
  refine f_o ?_
  refine m_l 0 En50 Hv30 fun ac51 En52 => ?_
  refine d_e [4,5,6,7,8,15] [] En52 fun ac53 En54 => ?_
  refine then_normal ?_
  refine c_d (((List.length ((manyM u16M 2 2 l false false).2.1) : Nat) : Int) > (0 : Int)) En54 (fun hc55 => ?_) (fun hc55 => ?_)
  ·
   refine d_s [4,5,6,7,8] [] En54 fun ac56 En57 => ?_
   refine wp_ret ?_
   refine block_ret ?_
   refine then_ret ?_
   refine d_ret2 (t := 4) (u := 5) (v := .slice none 0 0) (x := .int .i64 50) En57 (by kernel_rfl) (by kernel_rfl) (by kernel_rfl) ?_
   have eA : gotA (manyM u16M 2 2 l false false) = 50 := Eq.symm (by first | exact end_1 (by assumption) | exact end_2 (by omega) | exact end_3 (by assumption) (by omega) (by assumption))
   rw [gotV_n eA (by decide), eA]
   have Hv58 : Ev w [] wo25 [.box bk7 [.slice ta16 (List.length ((manyM u16M 2 2 l false false).2.1)) tc17, .bool ((manyM u16M 2 2 l false false).2.2.1), .bool ((manyM u16M 2 2 l false false).2.2.2)] 120, .vec oa20 oc21 1 (List.flatMap fU16 xs22) 37, .vec none 0 1 (List.flatMap fU16 []) 37] := Ev.nil (sz := 1) (T := 37) Hv30
   exact ⟨none, 0, [], rfl, Hv58.pk [2], rfl, (Nat.zero_le _)⟩
  ·
   refine wp_seq ?_
   refine region_from ?_
   refine d_k [4,5,6,7,8,32] [] 3 En54 fun ac59 En60 => ?_
   refine f_o ?_
   refine m_l 0 En60 Hv30 fun ac61 En62 => ?_
   refine d_e [4,5,6,7,8,29] [] En62 fun ac63 En64 => ?_
   refine then_normal ?_
   refine cond_at En64 (t := (manyM u16M 2 2 l false false).2.2.2) (by kernel_rfl) (fun hc65 => ?_) (fun hc65 => ?_)
   ·
    replace hc65 : (manyM u16M 2 2 l false false).2.2.2 = true := hc65
    refine d_s [4,5,6,7,8] [] En64 fun ac66 En67 => ?_
    refine wp_ret ?_
    refine block_ret ?_
    refine then_ret ?_
    refine d_ret2 (t := 4) (u := 5) (v := .slice none 0 0) (x := .int .i64 47) En67 (by kernel_rfl) (by kernel_rfl) (by kernel_rfl) ?_
    have eA : gotA (manyM u16M 2 2 l false false) = 47 := Eq.symm (by first | exact end_1 (by assumption) | exact end_2 (by omega) | exact end_3 (by assumption) (by omega) (by assumption))
    rw [gotV_n eA (by decide), eA]
    have Hv68 : Ev w [] wo25 [.box bk7 [.slice ta16 (List.length ((manyM u16M 2 2 l false false).2.1)) tc17, .bool ((manyM u16M 2 2 l false false).2.2.1), .bool ((manyM u16M 2 2 l false false).2.2.2)] 120, .vec oa20 oc21 1 (List.flatMap fU16 xs22) 37, .vec none 0 1 (List.flatMap fU16 []) 37] := Ev.nil (sz := 1) (T := 37) Hv30
    exact ⟨none, 0, [], rfl, Hv68.pk [2], rfl, (Nat.zero_le _)⟩
   ·
    replace hc65 : ¬ ((manyM u16M 2 2 l false false).2.2.2 = true) := Bool.eq_false_iff.1 hc65
    refine wp_skip ?_
    refine block_normal ?_
    refine then_normal ?_
    refine d_s [4,5,6,7] [] En64 fun ac69 En70 => ?_
    refine wp_ret ?_
    refine d_ret2 (t := 4) (u := 5) (v := .slice oa20 (List.length xs22) oc21) (x := .int .i64 0) En70 (by kernel_rfl) (by kernel_rfl) (by kernel_rfl) ?_
    have eA : gotA (manyM u16M 2 2 l false false) = 0 := (end_4 (by assumption) (by omega) (by assumption)).symm
    rw [gotV_0 eA, eA]
    exact ⟨oa20, oc21, xs22, rfl, Hv30.pk [1], hpu19, hf23⟩

theorem getlist_go (w : World) (aq : Option Addr) (nq cq : Nat) (lq : List UInt8) (eq : nq = List.length lq) (iq : InB w [] aq cq lq) : Calls Try.prog 43 #[.slice aq nq cq] w fun e w' => ∃ oa oc xs, e = .returned (.tuple #[.slice oa (List.length xs) oc, .int .i64 (gotA (manyM u16M 2 2 lq false false))]) ∧ Ev w [] w' [.vec oa oc 1 (List.flatMap fU16 xs) 37] ∧ List.map (fun y : RU16 => y) xs = gotV [] (manyM u16M 2 2 lq false false) ∧ List.length xs ≤ 4294967296 := by
 subst eq
 refine d_0 [(0, .slice aq (List.length lq) cq)] 8 Go.Proofs.Try.func43 Go.Proofs.Try.ntmps43 (Heap.nil _) fun act0 En0 Hv0 => ?_
 refine d_s [0,2,3] [] En0 fun ac1 En2 => ?_
 refine wp_seq ?_
 refine region_from ?_
 refine d_k [2,3,4] [] 1 En2 fun ac3 En4 => ?_
 refine f_o ?_
 refine c_0 En4 Hv0 (got_getlist _ aq cq lq ((iq.ev Hv0).pick [] (by kernel_rfl))) ?_
 rintro _ wo11 ⟨oa5, oc6, xs7, rfl, he12, hpu8, hf9⟩
 refine ⟨_, _, _, rfl, he12, rfl, fun ac14 En15 Hv16 => ?_⟩
 refine d_e [2,3] [] En15 fun ac17 En18 => ?_
 refine then_normal ?_
 refine wp_ret ?_
 refine d_ret2 (t := 2) (u := 3) (v := .slice oa5 (List.length xs7) oc6) (x := .int .i64 (gotA (manyM u16M 2 2 lq false false))) En18 (by kernel_rfl) (by kernel_rfl) (by kernel_rfl) ?_
 exact ⟨oa5, oc6, xs7, rfl, Hv16.pk [0], hpu8, hf9⟩

end Go.Proofs.Ytofecellbfhnjaa

/- Layer 17: lists of numbers, as the document reads them; compared. -/

namespace Go.Proofs.Ytofecellbfhnjaa
open Go.Dbr
set_option maxRecDepth 100000
set_option maxHeartbeats 2000000
set_option linter.unusedVariables false
set_option linter.unusedSimpArgs false

theorem same_step {α β : Type} {f : α → β} {xs ys : List α} {i : Nat} {x y : α} (hx : xs[i]? = some x) (hy : ys[i]? = some y) (e : f x = f y) (h : List.take i (List.map f xs) = List.take i (List.map f ys)) : List.take (i + 1) (List.map f xs) = List.take (i + 1) (List.map f ys) := by
  rw [List.take_add_one, List.take_add_one, List.getElem?_map, List.getElem?_map, hx, hy, h]
  show _ ++ [f x] = _ ++ [f y]
  rw [e]
theorem same_no {α β : Type} [BEq β] [LawfulBEq β] {f : α → β} {xs ys : List α} {i : Nat} {x y : α} (hx : xs[i]? = some x) (hy : ys[i]? = some y) (e : ¬ f x = f y) : false = (List.map f xs == List.map f ys) := by
  refine (beq_false_of_ne fun g => e ?_).symm
  have := congrArg (fun l => l[i]?) g
  simp only [List.getElem?_map, hx, hy, Option.map_some, Option.some.injEq] at this
  exact this
theorem same_len {α β : Type} [BEq β] [LawfulBEq β] {f : α → β} {xs ys : List α} (e : ¬ xs.length = ys.length) : false = (List.map f xs == List.map f ys) := by
  refine (beq_false_of_ne fun g => e ?_).symm
  have := congrArg List.length g
  rwa [List.length_map, List.length_map] at this
theorem same_all {α β : Type} [BEq β] [LawfulBEq β] {f : α → β} {xs ys : List α} {i : Nat} (e : xs.length = ys.length) (hi : ¬ i < xs.length) (h : List.take i (List.map f xs) = List.take i (List.map f ys)) : true = (List.map f xs == List.map f ys) := by
  rw [List.take_of_length_le (by rw [List.length_map]; omega), List.take_of_length_le (by rw [List.length_map]; omega)] at h
  rw [h]
  exact (beq_self_eq_true _).symm
theorem u16_eq {x y : UInt16} (h : ((UInt16.toNat x : Nat) : Int) = ((UInt16.toNat y : Nat) : Int)) : x = y := UInt16.toNat_inj.1 (by omega)

end Go.Proofs.Ytofecellbfhnjaa

/- []byte(s): over any program. -/


namespace Go.Dbr
open Go Go.RowKit
section
variable {P : Program} {ops : Array Oper} {Q : Exit → Act → World → Prop} {n i : Nat} {l : List (Nat × Value)} {a : Act} {w w0 : World} {L L0 : List Ent} {d : Option Tmp} {K : Act → World → Prop}
theorem bytesRow_size (s : List UInt8) (cap : Nat) (h : s.length ≤ cap) : (bytesRow (bstr s) cap).size = cap := by
  rw [bytesRow, Array.size_append, Array.size_map, Array.size_replicate, bstr_size]
  have : (bstr s).data.size = s.length := by simp [bstr]
  omega
theorem bytesRow_get (s : List UInt8) (cap j : Nat) (h : j < s.length) : (bytesRow (bstr s) cap)[j]? = (bys s)[j]? := by
  have e : (bstr s).data = s.toArray := by simp [bstr]
  rw [bytesRow, e, Array.getElem?_append_left (by simpa using h)]
  simp [bys]
  rfl
theorem op_bytes (E : Env a n l) {src dst e : TypeId} {s : List UInt8} (h : opAt ops n i l = some (.run d (nv (convert src dst (.string (bstr s)))))) (hs : P.underlying src = some .string) (hd : P.underlying dst = some (.slice e)) (he : P.underlying e = some (.int .u8)) (H : Ev w0 L0 w L) (hl : s.length ≤ maxLen)
    (next : ∀ a' w' b cap, Env a' n (putl d (.slice (some ⟨b, 0, none⟩) s.length cap) l) → Ev w0 L0 w' (L ++ [.vec (some ⟨b, 0, none⟩) cap 1 (bys s) e]) → s.length ≤ cap → K a' w') : wpOp P ops Q i K a w := by
  have hr := run_bytes_of_string (P := P) w src dst e (bstr s) hs hd he
  rw [bstr_size] at hr
  have hge := grownCap_ge w s.length 0 e
  have hle := grownCap_le_maxLen w s.length 0 e hl
  refine any_run E h (run_nv hr) fun a' E' => next a' _ w.heap.size _ E' ?_ hge
  refine H.trans ((Ev.drew H.heap).trans (Ev.add (Ev.drew H.heap).heap (chg_alloc _ _ _) ⟨rfl, hle, ?_, _, _, heap_alloc_new w.drew _, .inr (Nat.le_refl _), ?_, fun j hj => ?_⟩ (fun b hb => ?_)))
  · rw [bys_length, Nat.mul_one]; exact hge
  · rw [bytesRow_size _ _ hge, Nat.mul_one, Nat.zero_add]; exact Nat.le_refl _
  · rw [bys_length] at hj
    rw [Nat.zero_add]
    exact bytesRow_get _ _ _ hj
  · simp only [Ent.own, Option.map_some, Option.some.injEq] at hb
    have : w.drew.heap.size = w.heap.size := rfl
    omega
end
end Go.Dbr

/- Layer 17: writers. -/


namespace Go.Proofs.Ytofecellbfhnjaa
open Go.Dbr
set_option maxRecDepth 100000
set_option maxHeartbeats 2000000
set_option linter.unusedVariables false
set_option linter.unusedSimpArgs false

/-- so many bytes of a number, the highest first -/
def beN (n v : Nat) : Bs := (List.range n).map fun j => UInt8.ofNat (v / 256 ^ (n - 1 - j))
theorem beN_len (n v : Nat) : (beN n v).length = n := by simp [beN]
theorem beN_take {n v j : Nat} (h : j < n) : List.take (j + 1) (beN n v) = List.take j (beN n v) ++ [UInt8.ofNat (v / 256 ^ (n - 1 - j))] := by
  rw [List.take_add_one]
  congr 1
  simp [beN, h]
theorem p256 (i : Nat) : (2 : Nat) ^ (8 * i) = 256 ^ i := by rw [Nat.pow_mul]
theorem u64_byte {v : UInt64} {i : Nat} (h : i < 8) : UInt64.toUInt8 (v >>> UInt64.ofNat (8 * i)) = UInt8.ofNat (v.toNat / 256 ^ i) := by
  apply UInt8.toNat_inj.1
  rw [UInt64.toNat_toUInt8, UInt64.toNat_shiftRight, UInt8.toNat_ofNat']
  have h1 : (UInt64.ofNat (8 * i)).toNat = 8 * i := by rw [UInt64.toNat_ofNat']; omega
  rw [h1, Nat.mod_eq_of_lt (show 8 * i < 64 by omega), Nat.shiftRight_eq_div_pow, p256]
theorem wn_step {n v j : Nat} {m l : Bs} {b : UInt8} (hm : m = l ++ List.take j (beN n v)) (h : j < n) (hb : b = UInt8.ofNat (v / 256 ^ (n - 1 - j))) : m ++ [b] = l ++ List.take (j + 1) (beN n v) := by
  rw [beN_take h, hm, hb, List.append_assoc]
theorem wn_all {n v j : Nat} {m l : Bs} (hm : m = l ++ List.take j (beN n v)) (h : j = n) : m = l ++ beN n v := by
  rw [hm, List.take_of_length_le (by rw [beN_len, h]; exact Nat.le_refl _)]
def wbad (n x y k : Nat) (bad : Bool) : Bool := bad || (decide (k < x) || (decide (y < k) || decide (0 < k / 2 ^ (8 * n))))
theorem wb1 {n x y k : Nat} {bad : Bool} (h : bad = true) : true = wbad n x y k bad := by subst h; rfl
theorem wb2 {n x y k : Nat} {bad : Bool} (h : k < x) : true = wbad n x y k bad := by rw [wbad, decide_eq_true h, Bool.true_or, Bool.or_true]
theorem wb3 {n x y k : Nat} {bad : Bool} (h : y < k) : true = wbad n x y k bad := by rw [wbad, decide_eq_true h, Bool.true_or, Bool.or_true, Bool.or_true]
theorem wb4 {n x y k : Nat} {bad : Bool} (h : ¬ bad = true) (h1 : ¬ k < x) (h2 : ¬ y < k) : decide (((k / 2 ^ (8 * n) : Nat) : Int) > 0) = wbad n x y k bad := by
  rw [wbad, Bool.eq_false_iff.2 h, decide_eq_false h1, decide_eq_false h2, Bool.false_or, Bool.false_or, Bool.false_or]
  exact decide_eq_decide.2 (by omega)
/-- what a writer gives -/
def doneL (bad : Bool) (l : Bs) : Bs := bif bad then [] else l

theorem wnum_go (w : World) (bw : Nat) (a : Option Addr) (c : Nat) (l : Bs) (bad : Bool) (n : Nat) (hn : n ≤ 4) (v : UInt64) (hb : List.length l + n ≤ 200000000000000) (hH : Heap w [.box bw [.slice a (List.length l) c, .bool bad] 115, .vec a c 1 (bys l) 5]) : Calls Try.prog 126 #[pt bw, ni n, uv64 v] w fun e w' => ∃ a' c', e = .returned (.tuple #[]) ∧ Ev w [.box bw [.slice a (List.length l) c, .bool bad] 115, .vec a c 1 (bys l) 5] w' [.box bw [.slice a' (List.length (l ++ beN n v.toNat)) c', .bool bad] 115, .vec a' c' 1 (bys (l ++ beN n v.toNat)) 5] := by
 refine d_0 [(0, pt bw), (1, ni n), (2, uv64 v)] 27 Go.Proofs.Try.func126 Go.Proofs.Try.ntmps126 (hH) fun act0 En0 Hv0 => ?_
 refine d_s [0,2,6] [(1, g_n (w_r (e := ((n : Nat) : Int) - (1 : Int)) (x := ((n : Nat) : Int) - 1 - ((0 : Nat) : Int)) (by omega)))] En0 fun ac1 En2 => ?_
 refine wp_block ?_
 refine loop_m (fun ms3 ac wo => ∃ (j : Nat) (wa : Option Addr) (wc : Nat) (m : Bs), ms3 = (n - j : Nat) ∧ Env ac 27 [(0, pt bw), (2, uv64 v), (6, .int .i64 (((n : Nat) : Int) - 1 - ((j : Nat) : Int)))] ∧ Ev w [.box bw [.slice a (List.length l) c, .bool bad] 115, .vec a c 1 (bys l) 5] wo [.box bw [.slice wa (List.length m) wc, .bool bad] 115, .vec wa wc 1 (bys m) 5] ∧ (j ≤ n) ∧ (m = l ++ List.take j (beN n v.toNat)) ∧ (List.length m = List.length l + j)) ⟨_, 0, a, c, l, rfl, En2.sb, Hv0.pk [0, 1], (by omega), (by rw [List.take_zero, List.append_nil]), rfl⟩ ?_
 rintro mm9 ac5 wo6 ⟨j, wa, wc, m, rfl, En7, Hv8, hj, hm, hml⟩
 refine wp_seq ?_
 refine d_s [0,2,6,10] [] En7 fun ac10 En11 => ?_
 refine c_d (((n : Nat) : Int) - 1 - ((j : Nat) : Int) ≥ (0 : Int)) En11 (fun hc12 => ?_) (fun hc12 => ?_)
 ·
  refine wp_skip ?_
  refine then_normal ?_
  refine wp_seq ?_
  refine wp_block ?_
  have hjn : j < n := by omega
  refine r_c (fun ac wo => ∃ (ao77 : Option Addr) (cp78 : Nat), Env ac 27 [(0, pt bw), (2, uv64 v), (6, .int .i64 (((n : Nat) : Int) - 1 - ((j : Nat) : Int)))] ∧ Ev w [.box bw [.slice a (List.length l) c, .bool bad] 115, .vec a c 1 (bys l) 5] wo [.box bw [.slice ao77 (List.length (m ++ [UInt64.toUInt8 (v >>> UInt64.ofNat (8 * (n - 1 - j)))])) cp78, .bool bad] 115, .vec ao77 cp78 1 (bys (m ++ [UInt64.toUInt8 (v >>> UInt64.ofNat (8 * (n - 1 - j)))])) 5]) ?_ ?_
  ·
   refine h_s (fun wv => Ev w [.box bw [.slice a (List.length l) c, .bool bad] 115, .vec a c 1 (bys l) 5] wv [.box bw [.slice wa (List.length m) wc, .bool bad] 115]) [14] 15 ?_
   have wo13 := Hv8.trans (Ev.drew Hv8.heap)
   refine q_s [0,1,2,3] [] 11 En11 (wo13.pk [0]) fun ac91 En92 => ?_
   refine q_l 0 4 En92 (wo13.pk [0]) fun ac93 En94 => ?_
   refine q_s [5,6,7] [(6, g_i .i64 (show ((n : Nat) : Int) - 1 - ((j : Nat) : Int) = ((n - 1 - j : Nat) : Int) from by omega)), (7, g_n (w_m 8 (n - 1 - j)))] 7 En94 (wo13.pk [0]) fun ac95 En96 => ?_
   refine q_f 8 En96 (fun _ => Go.Dbr.run_shr_u64 v .i64 (8 * (n - 1 - j)) (by omega) _) (fun _ => wo13.pk [0]) fun ac97 En98 => ?_
   refine q_s [9] [(9, g_i .u8 (Go.Dbr.u64_to_u8 (x := v >>> UInt64.ofNat (8 * (n - 1 - j))) rfl))] 5 En98 (wo13.pk [0]) fun ac99 En100 => ?_
   refine q_t 10 ?_
   refine op_lit (d := some 23) (t := 23) (T := 5) (m := 1) (parts := #[(0, .int .u8 ((UInt8.toNat (UInt64.toUInt8 (v >>> UInt64.ofNat (8 * (n - 1 - j)))) : Nat) : Int))]) (xs := bys [UInt64.toUInt8 (v >>> UInt64.ofNat (8 * (n - 1 - j)))]) (sz := 1) En100 (by kernel_rfl) (by kernel_rfl) rfl (by decide) wo13 ?_
   intro ac102 wo103 bk101 En104 Hv105
   refine ⟨fun _ => Hv105.pk [0], ?_⟩
   refine q_t 11 ?_
   refine op_append (d := some 24) (t := 23) (tx := 23) (ty := 23) (k := 1) (p := List.length m) (m := 1) (x := .slice (some ⟨bk101, 0, none⟩) 1 1) (bytes := 1) En104 (by kernel_rfl) Hv105 rfl (bys_len _) (Reads.src (size := 1) (tx := 23) (e' := 5) (by kernel_rfl) (Hv105.heap.reads (k := 2) rfl) rfl (fun e => by cases e) (bys_one _)) (by kernel_rfl) (z := .int .u8 0) (by kernel_rfl) rfl (by decide) (by omega) (by unfold maxLen; omega) ?_
   intro ac110 wo111 ao106 cp107 En112 Hv113 hnz _
   clear hnz
   rw [← bys_append] at Hv113
   have ehz108 : (List.length m) + 1 = List.length (m ++ [UInt64.toUInt8 (v >>> UInt64.ofNat (8 * (n - 1 - j)))]) := (by first | (simp; done) | (simp; omega) | omega)
   rw [ehz108] at En112
   refine ⟨fun _ => Hv113.pk [0], ?_⟩
   refine q_s [12,13] [] 1 En112 (Hv113.pk [0]) fun ac114 En115 => ?_
   refine q_t 14 ?_
   refine m_s 0 [.box bw [.slice ao106 (List.length (m ++ [UInt64.toUInt8 (v >>> UInt64.ofNat (8 * (n - 1 - j)))])) cp107, .bool bad] 115, .vec ao106 cp107 1 (bys (m ++ [UInt64.toUInt8 (v >>> UInt64.ofNat (8 * (n - 1 - j)))])) 5, .vec (some ⟨bk101, 0, none⟩) 1 1 (bys [UInt64.toUInt8 (v >>> UInt64.ofNat (8 * (n - 1 - j)))]) 5] En115 Hv113 fun ac116 wo117 En118 Hv119 => ?_
   refine ⟨q_y, ?_⟩
   exact h_e ⟨ao106, cp107, En118.sb, Hv119.pk [0, 1]⟩
  rintro ac120 wo121 ⟨ao77, cp78, En122, Hv123⟩
  refine block_normal ?_
  refine then_normal ?_
  refine d_r [0,2,6] [(1, g_n (w_r (e := (((n : Nat) : Int) - 1 - ((j : Nat) : Int)) - (1 : Int)) (x := ((n : Nat) : Int) - 1 - ((j + 1 : Nat) : Int)) (by omega)))] En122 fun ac124 En125 => ?_
  refine then_normal ?_
  refine ⟨_, ⟨j + 1, ao77, cp78, (m ++ [UInt64.toUInt8 (v >>> UInt64.ofNat (8 * (n - 1 - j)))]), rfl, En125.sb, Hv123.pk [0, 1], (by omega), (wn_step hm (by omega) (u64_byte (by omega))), (by rw [List.length_append, hml]; rfl)⟩, ?_⟩
  omega
 ·
  refine wp_exit ?_
  refine then_exit ?_
  refine then_exit ?_
  refine block_exit ?_
  refine d_end0 En11 (by kernel_rfl) ?_
  have hme := wn_all hm (by omega)
  subst hme
  exact ⟨wa, wc, rfl, Hv8.pk [0, 1]⟩

end Go.Proofs.Ytofecellbfhnjaa
