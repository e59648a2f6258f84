import Derived.Test.YtofecellbfhnjaaHb3
/- Layer 17: readers. -/



namespace Go.Proofs.Ytofecellbfhnjaa
open Go.Dbr
set_option maxRecDepth 100000
set_option maxHeartbeats 2000000
set_option linter.unusedVariables false
set_option linter.unusedSimpArgs false

abbrev pt (b : Nat) : Value := .pointer (some (Addr.mk b 0 none))
abbrev ni (n : Nat) : Value := .int .i64 (n : Int)
abbrev Bs := List UInt8
/-- so many bytes are taken from the front; short: there are fewer -/
def tkS (n : Nat) (l : Bs) (s : Bool) : Bool := s || decide (l.length < n)
def tkO (n : Nat) (l : Bs) (s : Bool) : Bs := bif tkS n l s then [] else List.take n l
def tkR (n : Nat) (l : Bs) (s : Bool) : Bs := bif tkS n l s then [] else List.drop n l
/-- the document's: what is left stays -/
def dkR (n : Nat) (l : Bs) (s : Bool) : Bs := bif tkS n l s then l else List.drop n l
theorem tk_s {n : Nat} {l : Bs} {s : Bool} (h : s = true) : tkS n l s = true := by rw [tkS, h]; rfl
theorem tk_n {n : Nat} {l : Bs} {s : Bool} (h : l.length < n) : tkS n l s = true := by rw [tkS, decide_eq_true h, Bool.or_true]
theorem tk_y {n : Nat} {l : Bs} {s : Bool} (h1 : ¬ s = true) (h : ¬ l.length < n) : tkS n l s = false := by rw [tkS, decide_eq_false h, Bool.eq_false_iff.2 h1]; rfl
theorem tkO_len (n : Nat) (l : Bs) (s : Bool) : (tkO n l s).length ≤ n := by
  unfold tkO
  cases tkS n l s with
  | true => exact Nat.zero_le _
  | false => rw [Bool.cond_false, List.length_take]; omega
theorem tkR_len (n : Nat) (l : Bs) (s : Bool) : (tkR n l s).length ≤ l.length := by
  unfold tkR
  cases tkS n l s with
  | true => exact Nat.zero_le _
  | false => rw [Bool.cond_false, List.length_drop]; omega
theorem dkR_len (n : Nat) (l : Bs) (s : Bool) : (dkR n l s).length ≤ l.length := by
  unfold dkR
  cases tkS n l s with
  | true => exact Nat.le_refl _
  | false => rw [Bool.cond_false, List.length_drop]; omega
/-- the number of bytes, the highest first -/
def beV (l : Bs) : Nat := l.foldl (fun v b => v * 256 + b.toNat) 0
theorem beV_snoc (l : Bs) (b : UInt8) : beV (l ++ [b]) = beV l * 256 + b.toNat := by rw [beV, List.foldl_append]; rfl
theorem beV_take {l : Bs} {j : Nat} (h : j < l.length) : beV (List.take (j + 1) l) = beV (List.take j l) * 256 + (List.getD l j 0).toNat := by
  rw [List.take_add_one, List.getElem?_eq_getElem h, Option.toList_some, beV_snoc, List.getD_eq_getElem?_getD, List.getElem?_eq_getElem h]
  rfl
theorem beV_lt : ∀ (k : Nat) (l : Bs), l.length = k → beV l < 256 ^ k
  | 0, l, h => by rw [List.length_eq_zero_iff.1 h]; decide
  | k + 1, l, h => by
    have e : l = List.take k l ++ [List.getD l k 0] := by
      rw [List.getD_eq_getElem?_getD, List.getElem?_eq_getElem (by omega)]
      show l = List.take k l ++ [l[k]]
      rw [List.take_append_getElem, List.take_of_length_le (by omega)]
    have ih := beV_lt k (List.take k l) (by rw [List.length_take]; omega)
    rw [e, beV_snoc, Nat.pow_succ]
    have := (List.getD l k 0).toNat_lt
    omega
theorem beV_4 {l : Bs} (h : l.length ≤ 4) : beV l < 4294967296 := Nat.lt_of_lt_of_le (beV_lt _ l rfl) (Nat.pow_le_pow_right (by decide) h : 256 ^ l.length ≤ 256 ^ 4)
def nbV (n : Nat) (l : Bs) (s : Bool) : Nat := beV (tkO n l s)
theorem nbV_4 {n : Nat} (h : n ≤ 4) (l : Bs) (s : Bool) : nbV n l s < 4294967296 := beV_4 (Nat.le_trans (tkO_len n l s) h)
theorem u8_lt (b : UInt8) : b.toNat < 256 := b.toNat_lt

theorem take_go (w : World) (br : Nat) (n : Nat) (hn : n ≤ 9223372036854775807) (a : Option Addr) (c : Nat) (l : List UInt8) (s o : Bool) (i : InB w [.box br [.slice a (List.length l) c, .bool s, .bool o] 120] a c l) (hH : Heap w [.box br [.slice a (List.length l) c, .bool s, .bool o] 120]) : Calls Try.prog 104 #[pt br, ni n] w fun e w' => ∃ ra rc ta tc, e = .returned (.slice ra (List.length (tkO n l s)) rc) ∧ Ev w [.box br [.slice a (List.length l) c, .bool s, .bool o] 120] w' [.box br [.slice ta (List.length (tkR n l s)) tc, .bool (tkS n l s), .bool o] 120] ∧ Sub a c l ra rc (tkO n l s) ∧ Sub a c l ta tc (tkR n l s) := by
 refine d_0 [(0, pt br), (1, ni n)] 42 Go.Proofs.Try.func104 Go.Proofs.Try.ntmps104 (hH) fun act0 En0 Hv0 => ?_
 refine d_s [0,1,4] [] En0 fun ac1 En2 => ?_
 refine wp_seq ?_
 refine wp_seq ?_
 refine region_from ?_
 refine d_k [0,1,4,8] [] 3 En2 fun ac3 En4 => ?_
 refine f_o ?_
 refine m_l 0 En4 Hv0 fun ac5 En6 => ?_
 refine d_k [0,1,4,10] [] 5 En6 fun ac7 En8 => ?_
 rcases Bool.eq_false_or_eq_true (s) with hb9 | hb9
 ·
  have En10 := En8.fx (t := 10) (congrArg Value.bool hb9)
  have hp11 : s = true := hb9
  refine d_e [0,1,4,18] [] En10 fun ac12 En13 => ?_
  refine then_normal ?_
  refine c_t En13 ?_
  refine wp_seq ?_
  refine region_from ?_
  refine d_k [0,1,4,20,22] [] 4 En13 fun ac14 En15 => ?_
  refine f_o ?_
  refine m_s 0 [.box br [.slice a (List.length l) c, .bool true, .bool o] 120] En15 Hv0 fun ac16 wo17 En18 Hv19 => ?_
  refine d_k [0,1,4,24] [] 7 En18 fun ac20 En21 => ?_
  refine f_o ?_
  refine m_s 0 [.box br [.slice none 0 0, .bool true, .bool o] 120] En21 Hv19 fun ac22 wo23 En24 Hv25 => ?_
  refine f_e ?_
  refine then_normal ?_
  refine d_s [0,1,4] [] En24 fun ac26 En27 => ?_
  refine wp_ret ?_
  refine then_ret ?_
  refine d_ret1 (t := 4) (v := .slice none 0 0) En27 (by kernel_rfl) (by kernel_rfl) ?_
  have eS : tkS n l s = true := by first | exact tk_s (by assumption) | exact tk_n (by omega)
  rw [tkO, tkR, eS]
  exact ⟨none, 0, none, 0, rfl, Hv25.pk [0], Sub.nil, Sub.nil⟩
 ·
  have En28 := En8.fx (t := 10) (congrArg Value.bool hb9)
  have hp29 : ¬ (s = true) := Bool.eq_false_iff.1 hb9
  refine d_k [0,1,4,10,11,14] [] 9 En28 fun ac30 En31 => ?_
  refine f_o ?_
  refine m_l 0 En31 Hv0 fun ac32 En33 => ?_
  refine d_e [0,1,4,18] [] En33 fun ac34 En35 => ?_
  refine then_normal ?_
  refine c_d (((n : Nat) : Int) > ((List.length l : Nat) : Int)) En35 (fun hc36 => ?_) (fun hc36 => ?_)
  ·
   refine wp_seq ?_
   refine region_from ?_
   refine d_k [0,1,4,20,22] [] 4 En35 fun ac37 En38 => ?_
   refine f_o ?_
   refine m_s 0 [.box br [.slice a (List.length l) c, .bool true, .bool o] 120] En38 Hv0 fun ac39 wo40 En41 Hv42 => ?_
   refine d_k [0,1,4,24] [] 7 En41 fun ac43 En44 => ?_
   refine f_o ?_
   refine m_s 0 [.box br [.slice none 0 0, .bool true, .bool o] 120] En44 Hv42 fun ac45 wo46 En47 Hv48 => ?_
   refine f_e ?_
   refine then_normal ?_
   refine d_s [0,1,4] [] En47 fun ac49 En50 => ?_
   refine wp_ret ?_
   refine then_ret ?_
   refine d_ret1 (t := 4) (v := .slice none 0 0) En50 (by kernel_rfl) (by kernel_rfl) ?_
   have eS : tkS n l s = true := by first | exact tk_s (by assumption) | exact tk_n (by omega)
   rw [tkO, tkR, eS]
   exact ⟨none, 0, none, 0, rfl, Hv48.pk [0], Sub.nil, Sub.nil⟩
  ·
   refine wp_skip ?_
   refine then_normal ?_
   refine wp_seq ?_
   refine region_from ?_
   refine d_k [0,1,4,27] [] 3 En35 fun ac51 En52 => ?_
   refine f_o ?_
   refine m_l 0 En52 Hv0 fun ac53 En54 => ?_
   refine d_k [0,1,4,28,29,30] [] 6 En54 fun ac55 En56 => ?_
   refine f_o ?_
   have hcap57 := i.cap
   refine op_val (d := some 31) (x := Instr.sliceAt 23 (.slice a (List.length l) c) none (some (ni n)) (some (ni n))) (v := .slice a n n) En56 (by kernel_rfl) (run_slicemx (e := 5) (sz := 1) (by kernel_rfl) (by kernel_rfl) a (List.length l) c n (by omega) .i64 .i64 _) ?_
   intro ac58 En59
   refine d_e [0,1,4,5] [] En59 fun ac60 En61 => ?_
   refine then_normal ?_
   refine wp_seq ?_
   refine region_from ?_
   refine d_k [0,1,4,5,32,35] [] 4 En61 fun ac62 En63 => ?_
   refine f_o ?_
   refine m_l 0 En63 Hv0 fun ac64 En65 => ?_
   refine d_k [0,1,4,5,32,36,37] [] 6 En65 fun ac66 En67 => ?_
   refine f_o ?_
   have hcap68 := i.cap
   refine op_slice (d := some 38) (t := 23) (e := 5) (sz := 1) (len := List.length l) (cap := c) (lo := n) (hi := List.length l) (ao := a) (lov := (some (ni n))) (hiv := none) En67 (by kernel_rfl) (by kernel_rfl) (by kernel_rfl) (by omega) (by omega) (.inr ⟨.i64, rfl⟩) (.inl ⟨rfl, rfl⟩) ?_
   intro ac69 En70
   refine d_k [0,1,4,5,38,40] [] 9 En70 fun ac71 En72 => ?_
   refine f_o ?_
   refine m_s 0 [.box br [.slice (cutAt a c n 1) ((List.length l) - n) (c - n), .bool s, .bool o] 120] En72 Hv0 fun ac73 wo74 En75 Hv76 => ?_
   refine f_e ?_
   refine then_normal ?_
   refine d_s [0,1,4] [] En75 fun ac77 En78 => ?_
   refine wp_ret ?_
   refine d_ret1 (t := 4) (v := .slice a n n) En78 (by kernel_rfl) (by kernel_rfl) ?_
   have eS : tkS n l s = false := tk_y (by assumption) (by omega)
   rw [tkO, tkR, eS, Bool.cond_false, Bool.cond_false]
   have hz := eS
   rw [show List.length l - n = List.length (List.drop n l) from List.length_drop.symm] at Hv76
   have es : s = false := Bool.eq_false_iff.2 (by assumption)
   subst es
   exact ⟨a, n, cutAt a c n 1, c - n, by rw [List.length_take, Nat.min_eq_left (by omega)], Hv76.pk [0], sub_mx n (by omega), sub_drop n (by omega)⟩

theorem number_go (w : World) (br : Nat) (n : Nat) (hn : n ≤ 4) (a : Option Addr) (c : Nat) (l : List UInt8) (s o : Bool) (i : InB w [.box br [.slice a (List.length l) c, .bool s, .bool o] 120] a c l) (hH : Heap w [.box br [.slice a (List.length l) c, .bool s, .bool o] 120]) : Calls Try.prog 102 #[pt br, ni n] w fun e w' => ∃ ta tc, e = .returned (.int .i64 ((nbV n l s : Nat) : Int)) ∧ Ev w [.box br [.slice a (List.length l) c, .bool s, .bool o] 120] w' [.box br [.slice ta (List.length (tkR n l s)) tc, .bool (tkS n l s), .bool o] 120] ∧ Sub a c l ta tc (tkR n l s) := by
 refine d_0 [(0, pt br), (1, ni n)] 23 Go.Proofs.Try.func102 Go.Proofs.Try.ntmps102 (hH) fun act0 En0 Hv0 => ?_
 refine d_s [0,1,4] [] En0 fun ac1 En2 => ?_
 refine d_s [0,1,4,5] [] En2 fun ac3 En4 => ?_
 refine wp_seq ?_
 refine wp_seq ?_
 refine region_from ?_
 refine d_k [4,5,8,9] [] 2 En4 fun ac5 En6 => ?_
 refine f_o ?_
 refine c_l [0] (M := [.box br [.slice a (List.length l) c, .bool s, .bool o] 120]) En6 Hv0 (fun hM13 => take_go _ br n (by omega) a c l s o ((i.ev Hv0).pick [0] (by kernel_rfl)) hM13) ?_
 rintro _ wo14 ⟨ra7, rc8, ta9, tc10, rfl, he15, hs11, hs12⟩
 refine ⟨_, _, [.box br [.slice ta9 (List.length (tkR n l s)) tc10, .bool (tkS n l s), .bool o] 120], rfl, he15, by kernel_rfl, fun ac17 En18 Hv19 => ?_⟩
 refine d_e [4,5,10,11,12] [] En18 fun ac20 En21 => ?_
 have hO := tkO_len n l s
 refine then_normal ?_
 refine wp_block ?_
 refine loop_m (fun ms22 ac wo => ∃ (j : Nat) (v : Nat), ms22 = (List.length (tkO n l s) - j : Nat) ∧ Env ac 23 [(4, .int .i64 0), (5, ni v), (10, .slice ra7 (List.length (tkO n l s)) rc8), (11, .int .i64 ((List.length (tkO n l s) : Nat) : Int)), (12, ni j)] ∧ Ev w [.box br [.slice a (List.length l) c, .bool s, .bool o] 120] wo [.box br [.slice ta9 (List.length (tkR n l s)) tc10, .bool (tkS n l s), .bool o] 120] ∧ (j ≤ List.length (tkO n l s)) ∧ (v = beV (List.take j (tkO n l s))) ∧ (v < 4294967296)) ⟨_, 0, 0, rfl, En21.sb, Hv19.pk [0], (by omega), rfl, (by omega)⟩ ?_
 rintro mm28 ac24 wo25 ⟨j, v, rfl, En26, Hv27, hj, hv, hb⟩
 refine d_s [4,5,10,11,12,13] [] En26 fun ac29 En30 => ?_
 refine wp_seq ?_
 refine c_d (((j : Nat) : Int) < ((List.length (tkO n l s) : Nat) : Int)) En30 (fun hc31 => ?_) (fun hc31 => ?_)
 ·
  refine wp_skip ?_
  refine then_normal ?_
  refine wp_seq ?_
  refine wp_block ?_
  have hb34 : j < List.length (tkO n l s) := (by omega)
  obtain ⟨adr32, had33⟩ := some_of ((hs11 _ [] ((i.ev Hv27).pick [] (by kernel_rfl)))).nz hb34
  refine wp_seq ?_
  refine region_from ?_
  refine f_o ?_
  refine q_v (x := Instr.indexAt 23 (.slice ra7 (List.length (tkO n l s)) rc8) (ni j)) (v := .pointer (some (Addr.add adr32 j))) En30 (Go.Dbr.run_indexsl (e := 5) (sz := 1) (j := j) (jo := j) had33 (by kernel_rfl) (by kernel_rfl) (by omega) hb34 (Nat.mul_one _) _) fun ac35 En36 => ?_
  refine f_o ?_
  have hb37 : j < List.length (tkO n l s) := by omega
  refine op_loadel (d := some 15) (t := 5) (ad := adr32) (ao := ra7) (xs := bys (tkO n l s)) (j := j) (v := .int .u8 ((UInt8.toNat (List.getD (tkO n l s) j 0) : Nat) : Int)) En36 (by kernel_rfl) ((hs11 _ [] ((i.ev Hv27).pick [] (by kernel_rfl)))).reads had33 (bys_getD hb37) (by kernel_rfl) ?_
  intro ac38 En39
  refine d_e [4,5,7,10,11,12] [] En39 fun ac40 En41 => ?_
  have hub := u8_lt (List.getD (tkO n l s) j 0)
  refine then_normal ?_
  refine d_r [4,5,10,11,12] [(1, g_n (w_r (e := ((v : Nat) : Int) * 2 ^ 8) (x := ((v * 256 : Nat) : Int)) (by omega))), (3, g_i .i64 (Go.Dbr.u8_to_i64 (x := List.getD (tkO n l s) j 0) rfl)), (4, g_i .i64 (Go.Dbr.i64_or_low (x := v) (y := UInt8.toNat (List.getD (tkO n l s) j 0)) 8 (by omega) (by omega)))] En41 fun ac42 En43 => ?_
  refine block_normal ?_
  refine then_normal ?_
  refine d_r [4,5,10,11,12] [(0, g_n (w_a j 1))] En43 fun ac44 En45 => ?_
  refine then_normal ?_
  refine ⟨_, ⟨j + 1, v * 256 + (UInt8.toNat (List.getD (tkO n l s) j 0)), rfl, En45.sb, Hv27.pk [0], (by omega), (by rw [hv]; exact (beV_take (by omega)).symm), (by have h4 := beV_4 (l := List.take (j + 1) (tkO n l s)) (by rw [List.length_take]; omega); rw [beV_take (by omega), ← hv] at h4; exact h4)⟩, ?_⟩
  omega
 ·
  refine wp_exit ?_
  refine then_exit ?_
  refine then_exit ?_
  refine block_exit ?_
  refine then_normal ?_
  refine d_s [4,5,10,11,12] [] En30 fun ac46 En47 => ?_
  refine wp_ret ?_
  refine d_ret1 (t := 4) (v := ni v) En47 (by kernel_rfl) (by kernel_rfl) ?_
  have hje : List.take j (tkO n l s) = tkO n l s := List.take_of_length_le (by omega)
  rw [hje] at hv
  exact ⟨ta9, tc10, by rw [hv]; rfl, Hv27.pk [0], hs12⟩

theorem clone_go (w : World) (a : Option Addr) (c : Nat) (l : List UInt8) (i : InB w [] a c l) : Calls Try.prog 103 #[.slice a (List.length l) c] w fun e w' => ∃ ao cap, e = .returned (.slice ao (List.length l) cap) ∧ Ev w [] w' [.vec ao cap 1 (bys l) 5] := by
 refine d_0 [(0, .slice a (List.length l) c)] 8 Go.Proofs.Try.func103 Go.Proofs.Try.ntmps103 (Heap.nil _) fun act0 En0 Hv0 => ?_
 refine d_s [0,2] [] En0 fun ac1 En2 => ?_
 refine wp_seq ?_
 refine wp_seq ?_
 refine region_from ?_
 refine d_k [0,2,3] [] 1 En2 fun ac3 En4 => ?_
 refine f_o ?_
 refine q_v (x := binOp .eql 23 (.slice a (List.length l) c) (.slice none 0 0)) (v := .bool (Option.isNone a)) En4 (Go.Dbr.run_slicenil (e := 5) (by kernel_rfl) a (List.length l) c _) fun ac5 En6 => ?_
 refine f_e ?_
 refine then_normal ?_
 refine cond_at En6 (t := Option.isNone a) (by kernel_rfl) (fun hc7 => ?_) (fun hc7 => ?_)
 ·
  replace hc7 : Option.isNone a = true := hc7
  refine d_s [0,2] [] En6 fun ac8 En9 => ?_
  refine wp_ret ?_
  refine then_ret ?_
  refine d_ret1 (t := 2) (v := .slice none 0 0) En9 (by kernel_rfl) (by kernel_rfl) ?_
  have hl0 : l = [] := List.length_eq_zero_iff.1 (i.nz (Option.isNone_iff_eq_none.1 hc7))
  subst hl0
  exact ⟨none, 0, rfl, (Ev.nil (sz := 1) (T := 5) Hv0).pk [0]⟩
 ·
  replace hc7 : ¬ (Option.isNone a = true) := Bool.eq_false_iff.1 hc7
  refine wp_skip ?_
  refine then_normal ?_
  refine wp_seq ?_
  refine region_from ?_
  refine f_o ?_
  refine op_lit (d := some 5) (t := 23) (T := 5) (m := 0) (parts := #[]) (xs := bys []) (sz := 1) En6 (by kernel_rfl) (by kernel_rfl) rfl (by decide) Hv0 ?_
  intro ac11 wo12 bk10 En13 Hv14
  refine d_k [0,2,5,6] [] 2 En13 fun ac15 En16 => ?_
  refine f_o ?_
  have hsm17 := i.small
  refine op_append (d := some 7) (t := 23) (tx := 23) (ty := 23) (k := 0) (p := 0) (m := List.length l) (x := .slice a (List.length l) c) (bytes := 1) En16 (by kernel_rfl) Hv14 rfl rfl (Reads.src (size := 1) (tx := 23) (e' := 5) (by kernel_rfl) (i.ev Hv14).reads (bys_len _) i.nz (bys_one _)) (by kernel_rfl) (z := .int .u8 0) (by kernel_rfl) rfl (by decide) (by have := i.small; omega) (by unfold maxLen; omega) ?_
  intro ac22 wo23 ao18 cp19 En24 Hv25 hnz _
  clear hnz
  rw [bys_nil_append] at Hv25
  have ehz20 : 0 + (List.length l) = List.length l := (by first | (simp; done) | (simp; omega) | omega)
  rw [ehz20] at En24
  refine d_e [0,2] [] En24 fun ac26 En27 => ?_
  refine then_normal ?_
  refine wp_ret ?_
  refine d_ret1 (t := 2) (v := .slice ao18 (List.length l) cp19) En27 (by kernel_rfl) (by kernel_rfl) ?_
  exact ⟨ao18, cp19, rfl, Hv25.pk [0]⟩

def lsT (n x y : Nat) (l : Bs) (s : Bool) : Bool := tkS n l s || (decide (nbV n l s < x) || decide (y < nbV n l s))
def lsO (n x y : Nat) (l : Bs) (s : Bool) : Bs := tkO (nbV n l s) (tkR n l s) (lsT n x y l s)
def lsR (n x y : Nat) (l : Bs) (s : Bool) : Bs := tkR (nbV n l s) (tkR n l s) (lsT n x y l s)
def lsS (n x y : Nat) (l : Bs) (s : Bool) : Bool := tkS (nbV n l s) (tkR n l s) (lsT n x y l s)
/-- the document's -/
def ldR (n x y : Nat) (l : Bs) (s : Bool) : Bs := dkR (nbV n l s) (dkR n l s) (lsT n x y l s)
def ldO (n x y : Nat) (l : Bs) (s : Bool) : Bs := tkO (nbV n l s) (dkR n l s) (lsT n x y l s)
def ldS (n x y : Nat) (l : Bs) (s : Bool) : Bool := tkS (nbV n l s) (dkR n l s) (lsT n x y l s)
theorem lsT_1 {n x y : Nat} {l : Bs} {s : Bool} (h : nbV n l s < x) : lsT n x y l s = true := by rw [lsT, decide_eq_true h, Bool.true_or, Bool.or_true]
theorem lsT_2 {n x y : Nat} {l : Bs} {s : Bool} (h : y < nbV n l s) : lsT n x y l s = true := by rw [lsT, decide_eq_true h, Bool.or_true, Bool.or_true]
theorem lsT_0 {n x y : Nat} {l : Bs} {s : Bool} (h1 : ¬ nbV n l s < x) (h2 : ¬ y < nbV n l s) : lsT n x y l s = tkS n l s := by rw [lsT, decide_eq_false h1, decide_eq_false h2, Bool.or_false, Bool.or_false]
theorem lsR_len (n x y : Nat) (l : Bs) (s : Bool) : (lsR n x y l s).length ≤ l.length := Nat.le_trans (tkR_len _ _ _) (tkR_len _ _ _)

theorem list_go (w : World) (br : Nat) (n : Nat) (hn : n ≤ 4) (x y : Nat) (hx : x ≤ 4294967295) (hy : y ≤ 4294967295) (a : Option Addr) (c : Nat) (l : List UInt8) (s o : Bool) (i : InB w [.box br [.slice a (List.length l) c, .bool s, .bool o] 120] a c l) (hH : Heap w [.box br [.slice a (List.length l) c, .bool s, .bool o] 120]) : Calls Try.prog 137 #[pt br, ni n, ni x, ni y] w fun e w' => ∃ ao cap ta tc, e = .returned (.slice ao (List.length (lsO n x y l s)) cap) ∧ Ev w [.box br [.slice a (List.length l) c, .bool s, .bool o] 120] w' [.box br [.slice ta (List.length (lsR n x y l s)) tc, .bool (lsS n x y l s), .bool o] 120, .vec ao cap 1 (bys (lsO n x y l s)) 5] ∧ Sub a c l ta tc (lsR n x y l s) := by
 refine d_0 [(0, pt br), (1, ni n), (2, ni x), (3, ni y)] 28 Go.Proofs.Try.func137 Go.Proofs.Try.ntmps137 (hH) fun act0 En0 Hv0 => ?_
 refine d_s [0,1,2,3,8] [] En0 fun ac1 En2 => ?_
 refine wp_seq ?_
 refine region_from ?_
 refine d_k [0,2,3,8,10,11] [] 2 En2 fun ac3 En4 => ?_
 refine f_o ?_
 refine c_l [0] (M := [.box br [.slice a (List.length l) c, .bool s, .bool o] 120]) En4 Hv0 (fun hM8 => number_go _ br n (by omega) a c l s o ((i.ev Hv0).pick [0] (by kernel_rfl)) hM8) ?_
 rintro _ wo9 ⟨ta5, tc6, rfl, he10, hs7⟩
 refine ⟨_, _, [.box br [.slice ta5 (List.length (tkR n l s)) tc6, .bool (tkS n l s), .bool o] 120], rfl, he10, by kernel_rfl, fun ac12 En13 Hv14 => ?_⟩
 refine d_e [0,2,3,8,9] [] En13 fun ac15 En16 => ?_
 have hk4 := nbV_4 hn l s
 refine then_normal ?_
 refine wp_seq ?_
 refine wp_seq ?_
 refine region_from ?_
 refine d_k [0,3,8,9,16] [] 4 En16 fun ac17 En18 => ?_
 rcases Bool.eq_false_or_eq_true (decide (((nbV n l s : Nat) : Int) < ((x : Nat) : Int))) with hb19 | hb19
 ·
  have En20 := En18.fx (t := 16) (congrArg Value.bool hb19)
  have hp21 : ((nbV n l s : Nat) : Int) < ((x : Nat) : Int) := of_decide_eq_true hb19
  refine d_e [0,8,9,20] [] En20 fun ac22 En23 => ?_
  refine then_normal ?_
  refine c_t En23 ?_
  refine region_from ?_
  refine d_k [0,8,9,23] [] 3 En23 fun ac24 En25 => ?_
  refine f_o ?_
  refine m_s 0 [.box br [.slice ta5 (List.length (tkR n l s)) tc6, .bool true, .bool o] 120] En25 Hv14 fun ac26 wo27 En28 Hv29 => ?_
  refine f_e ?_
  refine then_normal ?_
  refine wp_seq ?_
  refine region_from ?_
  refine d_k [0,8,9,24,25] [] 2 En28 fun ac30 En31 => ?_
  refine f_o ?_
  refine c_l [0] (M := [.box br [.slice ta5 (List.length (tkR n l s)) tc6, .bool true, .bool o] 120]) En31 Hv29 (fun hM38 => take_go _ br (nbV n l s) (by omega) ta5 tc6 (tkR n l s) true o (hs7 _ _ ((i.ev Hv29).pick [0] (by kernel_rfl))) hM38) ?_
  rintro _ wo39 ⟨ra32, rc33, ta34, tc35, rfl, he40, hs36, hs37⟩
  refine ⟨_, _, [.box br [.slice ta34 (List.length (tkR (nbV n l s) (tkR n l s) true)) tc35, .bool (tkS (nbV n l s) (tkR n l s) true), .bool o] 120], rfl, he40, by kernel_rfl, fun ac42 En43 Hv44 => ?_⟩
  refine f_o ?_
  refine c_0 En43 Hv44 (clone_go _ ra32 rc33 (tkO (nbV n l s) (tkR n l s) true) (hs36 _ [] (hs7 _ [] ((i.ev Hv44).pick [] (by kernel_rfl))))) ?_
  rintro _ wo48 ⟨ao45, cp46, rfl, he49⟩
  refine ⟨_, _, _, rfl, he49, rfl, fun ac51 En52 Hv53 => ?_⟩
  refine d_e [0,8,9] [] En52 fun ac54 En55 => ?_
  refine then_normal ?_
  refine wp_ret ?_
  refine d_ret1 (t := 8) (v := .slice ao45 (List.length (tkO (nbV n l s) (tkR n l s) true)) cp46) En55 (by kernel_rfl) (by kernel_rfl) ?_
  have eT : lsT n x y l s = true := by first | exact lsT_1 (by omega) | exact lsT_2 (by omega) | exact lsT_0 (by omega) (by omega)
  simp only [lsO, lsR, lsS, eT]
  exact ⟨ao45, cp46, ta34, tc35, rfl, Hv53.pk [1, 0], (hs7.trans hs37)⟩
 ·
  have En56 := En18.fx (t := 16) (congrArg Value.bool hb19)
  have hp57 : ¬ (((nbV n l s : Nat) : Int) < ((x : Nat) : Int)) := of_decide_eq_false hb19
  refine d_e [0,8,9,20] [] En56 fun ac58 En59 => ?_
  refine then_normal ?_
  refine c_d (((nbV n l s : Nat) : Int) > ((y : Nat) : Int)) En59 (fun hc60 => ?_) (fun hc60 => ?_)
  ·
   refine region_from ?_
   refine d_k [0,8,9,23] [] 3 En59 fun ac61 En62 => ?_
   refine f_o ?_
   refine m_s 0 [.box br [.slice ta5 (List.length (tkR n l s)) tc6, .bool true, .bool o] 120] En62 Hv14 fun ac63 wo64 En65 Hv66 => ?_
   refine f_e ?_
   refine then_normal ?_
   refine wp_seq ?_
   refine region_from ?_
   refine d_k [0,8,9,24,25] [] 2 En65 fun ac67 En68 => ?_
   refine f_o ?_
   refine c_l [0] (M := [.box br [.slice ta5 (List.length (tkR n l s)) tc6, .bool true, .bool o] 120]) En68 Hv66 (fun hM75 => take_go _ br (nbV n l s) (by omega) ta5 tc6 (tkR n l s) true o (hs7 _ _ ((i.ev Hv66).pick [0] (by kernel_rfl))) hM75) ?_
   rintro _ wo76 ⟨ra69, rc70, ta71, tc72, rfl, he77, hs73, hs74⟩
   refine ⟨_, _, [.box br [.slice ta71 (List.length (tkR (nbV n l s) (tkR n l s) true)) tc72, .bool (tkS (nbV n l s) (tkR n l s) true), .bool o] 120], rfl, he77, by kernel_rfl, fun ac79 En80 Hv81 => ?_⟩
   refine f_o ?_
   refine c_0 En80 Hv81 (clone_go _ ra69 rc70 (tkO (nbV n l s) (tkR n l s) true) (hs73 _ [] (hs7 _ [] ((i.ev Hv81).pick [] (by kernel_rfl))))) ?_
   rintro _ wo85 ⟨ao82, cp83, rfl, he86⟩
   refine ⟨_, _, _, rfl, he86, rfl, fun ac88 En89 Hv90 => ?_⟩
   refine d_e [0,8,9] [] En89 fun ac91 En92 => ?_
   refine then_normal ?_
   refine wp_ret ?_
   refine d_ret1 (t := 8) (v := .slice ao82 (List.length (tkO (nbV n l s) (tkR n l s) true)) cp83) En92 (by kernel_rfl) (by kernel_rfl) ?_
   have eT : lsT n x y l s = true := by first | exact lsT_1 (by omega) | exact lsT_2 (by omega) | exact lsT_0 (by omega) (by omega)
   simp only [lsO, lsR, lsS, eT]
   exact ⟨ao82, cp83, ta71, tc72, rfl, Hv90.pk [1, 0], (hs7.trans hs74)⟩
  ·
   refine wp_skip ?_
   refine then_normal ?_
   refine wp_seq ?_
   refine region_from ?_
   refine d_k [0,8,9,24,25] [] 2 En59 fun ac93 En94 => ?_
   refine f_o ?_
   refine c_l [0] (M := [.box br [.slice ta5 (List.length (tkR n l s)) tc6, .bool (tkS n l s), .bool o] 120]) En94 Hv14 (fun hM101 => take_go _ br (nbV n l s) (by omega) ta5 tc6 (tkR n l s) (tkS n l s) o (hs7 _ _ ((i.ev Hv14).pick [0] (by kernel_rfl))) hM101) ?_
   rintro _ wo102 ⟨ra95, rc96, ta97, tc98, rfl, he103, hs99, hs100⟩
   refine ⟨_, _, [.box br [.slice ta97 (List.length (tkR (nbV n l s) (tkR n l s) (tkS n l s))) tc98, .bool (tkS (nbV n l s) (tkR n l s) (tkS n l s)), .bool o] 120], rfl, he103, by kernel_rfl, fun ac105 En106 Hv107 => ?_⟩
   refine f_o ?_
   refine c_0 En106 Hv107 (clone_go _ ra95 rc96 (tkO (nbV n l s) (tkR n l s) (tkS n l s)) (hs99 _ [] (hs7 _ [] ((i.ev Hv107).pick [] (by kernel_rfl))))) ?_
   rintro _ wo111 ⟨ao108, cp109, rfl, he112⟩
   refine ⟨_, _, _, rfl, he112, rfl, fun ac114 En115 Hv116 => ?_⟩
   refine d_e [0,8,9] [] En115 fun ac117 En118 => ?_
   refine then_normal ?_
   refine wp_ret ?_
   refine d_ret1 (t := 8) (v := .slice ao108 (List.length (tkO (nbV n l s) (tkR n l s) (tkS n l s))) cp109) En118 (by kernel_rfl) (by kernel_rfl) ?_
   have eT : lsT n x y l s = tkS n l s := by first | exact lsT_1 (by omega) | exact lsT_2 (by omega) | exact lsT_0 (by omega) (by omega)
   simp only [lsO, lsR, lsS, eT]
   exact ⟨ao108, cp109, ta97, tc98, rfl, Hv116.pk [1, 0], (hs7.trans hs100)⟩

end Go.Proofs.Ytofecellbfhnjaa

/- Layer 17: the document's readers. -/

namespace Go.Proofs.Ytofecellbfhnjaa
open Go.Dbr
set_option maxRecDepth 100000
set_option maxHeartbeats 2000000
set_option linter.unusedVariables false
set_option linter.unusedSimpArgs false

theorem dtake_go (w : World) (br : Nat) (n : Nat) (hn : n ≤ 9223372036854775807) (a : Option Addr) (c : Nat) (l : List UInt8) (s o : Bool) (i : InB w [.box br [.slice a (List.length l) c, .bool s, .bool o] 154] a c l) (hH : Heap w [.box br [.slice a (List.length l) c, .bool s, .bool o] 154]) : Calls Try.prog 202 #[pt br, ni n] w fun e w' => ∃ ao cap ta tc, e = .returned (.slice ao (List.length (tkO n l s)) cap) ∧ Ev w [.box br [.slice a (List.length l) c, .bool s, .bool o] 154] w' [.box br [.slice ta (List.length (dkR n l s)) tc, .bool (tkS n l s), .bool o] 154, .vec ao cap 1 (bys (tkO n l s)) 5] ∧ Sub a c l ta tc (dkR n l s) := by
 refine d_0 [(0, pt br), (1, ni n)] 40 Go.Proofs.Try.func202 Go.Proofs.Try.ntmps202 (hH) fun act0 En0 Hv0 => ?_
 refine d_s [0,1,4] [] En0 fun ac1 En2 => ?_
 refine wp_seq ?_
 refine wp_seq ?_
 refine region_from ?_
 refine d_k [0,1,4,8] [] 3 En2 fun ac3 En4 => ?_
 refine f_o ?_
 refine m_l 0 En4 Hv0 fun ac5 En6 => ?_
 refine d_k [0,1,4,10] [] 5 En6 fun ac7 En8 => ?_
 rcases Bool.eq_false_or_eq_true (s) with hb9 | hb9
 ·
  have En10 := En8.fx (t := 10) (congrArg Value.bool hb9)
  have hp11 : s = true := hb9
  refine d_e [0,1,4,18] [] En10 fun ac12 En13 => ?_
  refine then_normal ?_
  refine c_t En13 ?_
  refine wp_seq ?_
  refine region_from ?_
  refine d_k [0,1,4,21] [] 3 En13 fun ac14 En15 => ?_
  refine f_o ?_
  refine m_s 0 [.box br [.slice a (List.length l) c, .bool true, .bool o] 154] En15 Hv0 fun ac16 wo17 En18 Hv19 => ?_
  refine f_e ?_
  refine then_normal ?_
  refine d_s [0,1,4] [] En18 fun ac20 En21 => ?_
  refine wp_ret ?_
  refine then_ret ?_
  refine d_ret1 (t := 4) (v := .slice none 0 0) En21 (by kernel_rfl) (by kernel_rfl) ?_
  have eS : tkS n l s = true := by first | exact tk_s (by assumption) | exact tk_n (by omega)
  rw [tkO, dkR, eS]
  exact ⟨none, 0, a, c, rfl, (Ev.nil (sz := 1) (T := 5) Hv19).pk [0, 1], Sub.self⟩
 ·
  have En22 := En8.fx (t := 10) (congrArg Value.bool hb9)
  have hp23 : ¬ (s = true) := Bool.eq_false_iff.1 hb9
  refine d_k [0,1,4,10,11,14] [] 9 En22 fun ac24 En25 => ?_
  refine f_o ?_
  refine m_l 0 En25 Hv0 fun ac26 En27 => ?_
  refine d_e [0,1,4,18] [] En27 fun ac28 En29 => ?_
  refine then_normal ?_
  refine c_d (((n : Nat) : Int) > ((List.length l : Nat) : Int)) En29 (fun hc30 => ?_) (fun hc30 => ?_)
  ·
   refine wp_seq ?_
   refine region_from ?_
   refine d_k [0,1,4,21] [] 3 En29 fun ac31 En32 => ?_
   refine f_o ?_
   refine m_s 0 [.box br [.slice a (List.length l) c, .bool true, .bool o] 154] En32 Hv0 fun ac33 wo34 En35 Hv36 => ?_
   refine f_e ?_
   refine then_normal ?_
   refine d_s [0,1,4] [] En35 fun ac37 En38 => ?_
   refine wp_ret ?_
   refine then_ret ?_
   refine d_ret1 (t := 4) (v := .slice none 0 0) En38 (by kernel_rfl) (by kernel_rfl) ?_
   have eS : tkS n l s = true := by first | exact tk_s (by assumption) | exact tk_n (by omega)
   rw [tkO, dkR, eS]
   exact ⟨none, 0, a, c, rfl, (Ev.nil (sz := 1) (T := 5) Hv36).pk [0, 1], Sub.self⟩
  ·
   refine wp_skip ?_
   refine then_normal ?_
   refine wp_seq ?_
   refine region_from ?_
   refine f_o ?_
   refine op_lit (d := some 22) (t := 23) (T := 5) (m := 0) (parts := #[]) (xs := bys []) (sz := 1) En29 (by kernel_rfl) (by kernel_rfl) rfl (by decide) Hv0 ?_
   intro ac40 wo41 bk39 En42 Hv43
   refine d_k [0,1,4,22,25] [] 4 En42 fun ac44 En45 => ?_
   refine f_o ?_
   refine m_l 0 En45 Hv43 fun ac46 En47 => ?_
   refine d_k [0,1,4,22,26,27] [] 6 En47 fun ac48 En49 => ?_
   refine f_o ?_
   have hcap50 := i.cap
   refine op_slice0 (d := some 28) (t := 23) (e := 5) (sz := 1) (len := List.length l) (cap := c) (hi := n) (ao := a) (lov := none) (hiv := (some (ni n))) En49 (by kernel_rfl) (by kernel_rfl) (by kernel_rfl) (by omega) (.inl ⟨rfl, rfl⟩) (.inr ⟨.i64, rfl⟩) ?_
   intro ac51 En52
   refine f_o ?_
   refine op_append (d := some 29) (t := 23) (tx := 23) (ty := 23) (k := 1) (p := 0) (m := n) (x := .slice a n c) (bytes := 1) En52 (by kernel_rfl) Hv43 rfl rfl (Reads.src (size := 1) (tx := 23) (e' := 5) (by kernel_rfl) (bys_take_reads (i.ev Hv43).reads n) (bys_lenn (by first | (simp; done) | (simp; omega))) (fun e => by have := i.nz e; omega) (bys_one _)) (by kernel_rfl) (z := .int .u8 0) (by kernel_rfl) rfl (by decide) (by have := i.small; omega) (by unfold maxLen; omega) ?_
   intro ac57 wo58 ao53 cp54 En59 Hv60 hnz _
   clear hnz
   rw [bys_nil_append] at Hv60
   have ehz55 : 0 + n = List.length (List.take n l) := (by first | (simp; done) | (simp; omega) | omega)
   rw [ehz55] at En59
   refine d_e [0,1,4,5] [] En59 fun ac61 En62 => ?_
   refine then_normal ?_
   refine wp_seq ?_
   refine region_from ?_
   refine d_k [0,1,4,5,30,33] [] 4 En62 fun ac63 En64 => ?_
   refine f_o ?_
   refine m_l 0 En64 Hv60 fun ac65 En66 => ?_
   refine d_k [0,1,4,5,30,34,35] [] 6 En66 fun ac67 En68 => ?_
   refine f_o ?_
   have hcap69 := i.cap
   refine op_slice (d := some 36) (t := 23) (e := 5) (sz := 1) (len := List.length l) (cap := c) (lo := n) (hi := List.length l) (ao := a) (lov := (some (ni n))) (hiv := none) En68 (by kernel_rfl) (by kernel_rfl) (by kernel_rfl) (by omega) (by omega) (.inr ⟨.i64, rfl⟩) (.inl ⟨rfl, rfl⟩) ?_
   intro ac70 En71
   refine d_k [0,1,4,5,36,38] [] 9 En71 fun ac72 En73 => ?_
   refine f_o ?_
   refine m_s 0 [.box br [.slice (cutAt a c n 1) ((List.length l) - n) (c - n), .bool s, .bool o] 154, .vec ao53 cp54 1 (bys (List.take n l)) 5] En73 Hv60 fun ac74 wo75 En76 Hv77 => ?_
   refine f_e ?_
   refine then_normal ?_
   refine d_s [0,1,4] [] En76 fun ac78 En79 => ?_
   refine wp_ret ?_
   refine d_ret1 (t := 4) (v := .slice ao53 (List.length (List.take n l)) cp54) En79 (by kernel_rfl) (by kernel_rfl) ?_
   have eS : tkS n l s = false := tk_y (by assumption) (by omega)
   rw [tkO, dkR, eS, Bool.cond_false, Bool.cond_false]
   rw [show List.length l - n = List.length (List.drop n l) from List.length_drop.symm] at Hv77
   have es : s = false := Bool.eq_false_iff.2 (by assumption)
   subst es
   exact ⟨ao53, cp54, cutAt a c n 1, c - n, rfl, Hv77.pk [0, 1], sub_drop n (by omega)⟩

theorem dnumber_go (w : World) (br : Nat) (n : Nat) (hn : n ≤ 4) (a : Option Addr) (c : Nat) (l : List UInt8) (s o : Bool) (i : InB w [.box br [.slice a (List.length l) c, .bool s, .bool o] 154] a c l) (hH : Heap w [.box br [.slice a (List.length l) c, .bool s, .bool o] 154]) : Calls Try.prog 140 #[pt br, ni n] w fun e w' => ∃ ta tc, e = .returned (.int .i64 ((nbV n l s : Nat) : Int)) ∧ Ev w [.box br [.slice a (List.length l) c, .bool s, .bool o] 154] w' [.box br [.slice ta (List.length (dkR n l s)) tc, .bool (tkS n l s), .bool o] 154] ∧ Sub a c l ta tc (dkR n l s) := by
 refine d_0 [(0, pt br), (1, ni n)] 26 Go.Proofs.Try.func140 Go.Proofs.Try.ntmps140 (hH) fun act0 En0 Hv0 => ?_
 refine wp_seq ?_
 refine d_r [0,1,4] [] En0 fun ac1 En2 => ?_
 refine then_normal ?_
 refine wp_seq ?_
 refine region_from ?_
 refine d_k [4,8,9] [] 2 En2 fun ac3 En4 => ?_
 refine f_o ?_
 refine c_l [0] (M := [.box br [.slice a (List.length l) c, .bool s, .bool o] 154]) En4 Hv0 (fun hM10 => dtake_go _ br n (by omega) a c l s o ((i.ev Hv0).pick [0] (by kernel_rfl)) hM10) ?_
 rintro _ wo11 ⟨ao5, cp6, ta7, tc8, rfl, he12, hs9⟩
 refine ⟨_, _, [.box br [.slice ta7 (List.length (dkR n l s)) tc8, .bool (tkS n l s), .bool o] 154, .vec ao5 cp6 1 (bys (tkO n l s)) 5], rfl, he12, by kernel_rfl, fun ac14 En15 Hv16 => ?_⟩
 refine d_e [4,5] [] En15 fun ac17 En18 => ?_
 have hO := tkO_len n l s
 refine then_normal ?_
 refine wp_seq ?_
 refine d_r [4,5,6] [] En18 fun ac19 En20 => ?_
 refine then_normal ?_
 refine wp_seq ?_
 refine wp_seq ?_
 refine d_r [4,5,6,7] [] En20 fun ac21 En22 => ?_
 refine then_normal ?_
 refine wp_block ?_
 refine loop_m (fun ms23 ac wo => ∃ (j : Nat) (v : Nat), ms23 = (List.length (tkO n l s) - j : Nat) ∧ Env ac 26 [(4, .int .i64 0), (5, .slice ao5 (List.length (tkO n l s)) cp6), (6, ni v), (7, ni j)] ∧ Ev w [.box br [.slice a (List.length l) c, .bool s, .bool o] 154] wo [.box br [.slice ta7 (List.length (dkR n l s)) tc8, .bool (tkS n l s), .bool o] 154, .vec ao5 cp6 1 (bys (tkO n l s)) 5] ∧ (j ≤ List.length (tkO n l s)) ∧ (v = beV (List.take j (tkO n l s))) ∧ (v < 4294967296)) ⟨_, 0, 0, rfl, En22.sb, Hv16.pk [0, 1], (by omega), rfl, (by omega)⟩ ?_
 rintro mm29 ac25 wo26 ⟨j, v, rfl, En27, Hv28, hj, hv, hb⟩
 refine wp_seq ?_
 refine wp_seq ?_
 refine d_r [4,5,6,7,14] [] En27 fun ac30 En31 => ?_
 refine then_normal ?_
 refine c_d (((j : Nat) : Int) < ((List.length (tkO n l s) : Nat) : Int)) En31 (fun hc32 => ?_) (fun hc32 => ?_)
 ·
  refine wp_skip ?_
  refine then_normal ?_
  refine wp_seq ?_
  refine wp_block ?_
  have hub := u8_lt (List.getD (tkO n l s) j 0)
  have hb35 : j < List.length (tkO n l s) := (by omega)
  obtain ⟨adr33, had34⟩ := some_of (bys_vnz Hv28.heap (k := 1) rfl) hb35
  refine region_from ?_
  refine d_k [4,5,6,7,18,19,20] [(1, g_n (w_m 256 v))] 4 En31 fun ac36 En37 => ?_
  refine f_o ?_
  refine q_v (x := Instr.indexAt 23 (.slice ao5 (List.length (tkO n l s)) cp6) (ni j)) (v := .pointer (some (Addr.add adr33 j))) En37 (Go.Dbr.run_indexsl (e := 5) (sz := 1) (j := j) (jo := j) had34 (by kernel_rfl) (by kernel_rfl) (by omega) hb35 (Nat.mul_one _) _) fun ac38 En39 => ?_
  refine f_o ?_
  have hb40 : j < List.length (tkO n l s) := by omega
  refine op_loadel (d := some 22) (t := 5) (ad := adr33) (ao := ao5) (xs := bys (tkO n l s)) (j := j) (v := .int .u8 ((UInt8.toNat (List.getD (tkO n l s) j 0) : Nat) : Int)) En39 (by kernel_rfl) (Hv28.heap.reads (k := 1) rfl) had34 (bys_getD hb40) (by kernel_rfl) ?_
  intro ac41 En42
  refine d_e [4,5,6,7] [(6, g_i .i64 (Go.Dbr.u8_to_i64 (x := List.getD (tkO n l s) j 0) rfl)), (7, g_i .i64 (show IntKind.wrap .i64 (((256 * v : Nat) : Int) + ((UInt8.toNat (List.getD (tkO n l s) j 0) : Nat) : Int)) = ((v * 256 + UInt8.toNat (List.getD (tkO n l s) j 0) : Nat) : Int) from Go.Dbr.wr64 (by omega) (by omega) (by omega)))] En42 fun ac43 En44 => ?_
  refine block_normal ?_
  refine then_normal ?_
  refine d_r [4,5,6,7] [(1, g_n (w_a j 1))] En44 fun ac45 En46 => ?_
  refine then_normal ?_
  refine ⟨_, ⟨j + 1, v * 256 + UInt8.toNat (List.getD (tkO n l s) j 0), rfl, En46.sb, Hv28.pk [0, 1], (by omega), (by rw [hv]; exact (beV_take (by omega)).symm), (by have h4 := beV_4 (l := List.take (j + 1) (tkO n l s)) (by rw [List.length_take]; omega); rw [beV_take (by omega), ← hv] at h4; exact h4)⟩, ?_⟩
  omega
 ·
  refine wp_exit ?_
  refine then_exit ?_
  refine then_exit ?_
  refine block_exit ?_
  refine then_normal ?_
  refine wp_seq ?_
  refine d_r [4,5,6,7] [] En31 fun ac47 En48 => ?_
  refine then_normal ?_
  refine wp_ret ?_
  refine d_ret1 (t := 4) (v := ni v) En48 (by kernel_rfl) (by kernel_rfl) ?_
  have hje : List.take j (tkO n l s) = tkO n l s := List.take_of_length_le (by omega)
  rw [hje] at hv
  exact ⟨ta7, tc8, by rw [hv]; rfl, Hv28.pk [0], hs9⟩

theorem ldR_len (n x y : Nat) (l : Bs) (s : Bool) : (ldR n x y l s).length ≤ l.length := Nat.le_trans (dkR_len _ _ _) (dkR_len _ _ _)

theorem dlist_go (w : World) (br : Nat) (n : Nat) (hn : n ≤ 4) (x y : Nat) (hx : x ≤ 4294967295) (hy : y ≤ 4294967295) (a : Option Addr) (c : Nat) (l : List UInt8) (s o : Bool) (i : InB w [.box br [.slice a (List.length l) c, .bool s, .bool o] 154] a c l) (hH : Heap w [.box br [.slice a (List.length l) c, .bool s, .bool o] 154]) : Calls Try.prog 141 #[pt br, ni n, ni x, ni y] w fun e w' => ∃ ao cap ta tc, e = .returned (.slice ao (List.length (ldO n x y l s)) cap) ∧ Ev w [.box br [.slice a (List.length l) c, .bool s, .bool o] 154] w' [.box br [.slice ta (List.length (ldR n x y l s)) tc, .bool (ldS n x y l s), .bool o] 154, .vec ao cap 1 (bys (ldO n x y l s)) 5] ∧ Sub a c l ta tc (ldR n x y l s) := by
 refine d_0 [(0, pt br), (1, ni n), (2, ni x), (3, ni y)] 27 Go.Proofs.Try.func141 Go.Proofs.Try.ntmps141 (hH) fun act0 En0 Hv0 => ?_
 refine d_s [0,1,2,3,8] [] En0 fun ac1 En2 => ?_
 refine wp_seq ?_
 refine region_from ?_
 refine d_k [0,2,3,8,10,11] [] 2 En2 fun ac3 En4 => ?_
 refine f_o ?_
 refine c_l [0] (M := [.box br [.slice a (List.length l) c, .bool s, .bool o] 154]) En4 Hv0 (fun hM8 => dnumber_go _ br n (by omega) a c l s o ((i.ev Hv0).pick [0] (by kernel_rfl)) hM8) ?_
 rintro _ wo9 ⟨ta5, tc6, rfl, he10, hs7⟩
 refine ⟨_, _, [.box br [.slice ta5 (List.length (dkR n l s)) tc6, .bool (tkS n l s), .bool o] 154], rfl, he10, by kernel_rfl, fun ac12 En13 Hv14 => ?_⟩
 refine d_e [0,2,3,8,9] [] En13 fun ac15 En16 => ?_
 have hk4 := nbV_4 hn l s
 refine then_normal ?_
 refine wp_seq ?_
 refine wp_seq ?_
 refine region_from ?_
 refine d_k [0,3,8,9,16] [] 4 En16 fun ac17 En18 => ?_
 rcases Bool.eq_false_or_eq_true (decide (((nbV n l s : Nat) : Int) < ((x : Nat) : Int))) with hb19 | hb19
 ·
  have En20 := En18.fx (t := 16) (congrArg Value.bool hb19)
  have hp21 : ((nbV n l s : Nat) : Int) < ((x : Nat) : Int) := of_decide_eq_true hb19
  refine d_e [0,8,9,20] [] En20 fun ac22 En23 => ?_
  refine then_normal ?_
  refine c_t En23 ?_
  refine region_from ?_
  refine d_k [0,8,9,23] [] 3 En23 fun ac24 En25 => ?_
  refine f_o ?_
  refine m_s 0 [.box br [.slice ta5 (List.length (dkR n l s)) tc6, .bool true, .bool o] 154] En25 Hv14 fun ac26 wo27 En28 Hv29 => ?_
  refine f_e ?_
  refine then_normal ?_
  refine wp_seq ?_
  refine region_from ?_
  refine d_k [0,8,9,24,25] [] 2 En28 fun ac30 En31 => ?_
  refine f_o ?_
  refine c_l [0] (M := [.box br [.slice ta5 (List.length (dkR n l s)) tc6, .bool true, .bool o] 154]) En31 Hv29 (fun hM37 => dtake_go _ br (nbV n l s) (by omega) ta5 tc6 (dkR n l s) true o (hs7 _ _ ((i.ev Hv29).pick [0] (by kernel_rfl))) hM37) ?_
  rintro _ wo38 ⟨ao32, cp33, ta34, tc35, rfl, he39, hs36⟩
  refine ⟨_, _, [.box br [.slice ta34 (List.length (dkR (nbV n l s) (dkR n l s) true)) tc35, .bool (tkS (nbV n l s) (dkR n l s) true), .bool o] 154, .vec ao32 cp33 1 (bys (tkO (nbV n l s) (dkR n l s) true)) 5], rfl, he39, by kernel_rfl, fun ac41 En42 Hv43 => ?_⟩
  refine d_e [0,8,9] [] En42 fun ac44 En45 => ?_
  refine then_normal ?_
  refine wp_ret ?_
  refine d_ret1 (t := 8) (v := .slice ao32 (List.length (tkO (nbV n l s) (dkR n l s) true)) cp33) En45 (by kernel_rfl) (by kernel_rfl) ?_
  have eT : lsT n x y l s = true := by first | exact lsT_1 (by omega) | exact lsT_2 (by omega) | exact lsT_0 (by omega) (by omega)
  simp only [ldO, ldR, ldS, eT]
  exact ⟨ao32, cp33, ta34, tc35, rfl, Hv43.pk [0, 1], (hs7.trans hs36)⟩
 ·
  have En46 := En18.fx (t := 16) (congrArg Value.bool hb19)
  have hp47 : ¬ (((nbV n l s : Nat) : Int) < ((x : Nat) : Int)) := of_decide_eq_false hb19
  refine d_e [0,8,9,20] [] En46 fun ac48 En49 => ?_
  refine then_normal ?_
  refine c_d (((nbV n l s : Nat) : Int) > ((y : Nat) : Int)) En49 (fun hc50 => ?_) (fun hc50 => ?_)
  ·
   refine region_from ?_
   refine d_k [0,8,9,23] [] 3 En49 fun ac51 En52 => ?_
   refine f_o ?_
   refine m_s 0 [.box br [.slice ta5 (List.length (dkR n l s)) tc6, .bool true, .bool o] 154] En52 Hv14 fun ac53 wo54 En55 Hv56 => ?_
   refine f_e ?_
   refine then_normal ?_
   refine wp_seq ?_
   refine region_from ?_
   refine d_k [0,8,9,24,25] [] 2 En55 fun ac57 En58 => ?_
   refine f_o ?_
   refine c_l [0] (M := [.box br [.slice ta5 (List.length (dkR n l s)) tc6, .bool true, .bool o] 154]) En58 Hv56 (fun hM64 => dtake_go _ br (nbV n l s) (by omega) ta5 tc6 (dkR n l s) true o (hs7 _ _ ((i.ev Hv56).pick [0] (by kernel_rfl))) hM64) ?_
   rintro _ wo65 ⟨ao59, cp60, ta61, tc62, rfl, he66, hs63⟩
   refine ⟨_, _, [.box br [.slice ta61 (List.length (dkR (nbV n l s) (dkR n l s) true)) tc62, .bool (tkS (nbV n l s) (dkR n l s) true), .bool o] 154, .vec ao59 cp60 1 (bys (tkO (nbV n l s) (dkR n l s) true)) 5], rfl, he66, by kernel_rfl, fun ac68 En69 Hv70 => ?_⟩
   refine d_e [0,8,9] [] En69 fun ac71 En72 => ?_
   refine then_normal ?_
   refine wp_ret ?_
   refine d_ret1 (t := 8) (v := .slice ao59 (List.length (tkO (nbV n l s) (dkR n l s) true)) cp60) En72 (by kernel_rfl) (by kernel_rfl) ?_
   have eT : lsT n x y l s = true := by first | exact lsT_1 (by omega) | exact lsT_2 (by omega) | exact lsT_0 (by omega) (by omega)
   simp only [ldO, ldR, ldS, eT]
   exact ⟨ao59, cp60, ta61, tc62, rfl, Hv70.pk [0, 1], (hs7.trans hs63)⟩
  ·
   refine wp_skip ?_
   refine then_normal ?_
   refine wp_seq ?_
   refine region_from ?_
   refine d_k [0,8,9,24,25] [] 2 En49 fun ac73 En74 => ?_
   refine f_o ?_
   refine c_l [0] (M := [.box br [.slice ta5 (List.length (dkR n l s)) tc6, .bool (tkS n l s), .bool o] 154]) En74 Hv14 (fun hM80 => dtake_go _ br (nbV n l s) (by omega) ta5 tc6 (dkR n l s) (tkS n l s) o (hs7 _ _ ((i.ev Hv14).pick [0] (by kernel_rfl))) hM80) ?_
   rintro _ wo81 ⟨ao75, cp76, ta77, tc78, rfl, he82, hs79⟩
   refine ⟨_, _, [.box br [.slice ta77 (List.length (dkR (nbV n l s) (dkR n l s) (tkS n l s))) tc78, .bool (tkS (nbV n l s) (dkR n l s) (tkS n l s)), .bool o] 154, .vec ao75 cp76 1 (bys (tkO (nbV n l s) (dkR n l s) (tkS n l s))) 5], rfl, he82, by kernel_rfl, fun ac84 En85 Hv86 => ?_⟩
   refine d_e [0,8,9] [] En85 fun ac87 En88 => ?_
   refine then_normal ?_
   refine wp_ret ?_
   refine d_ret1 (t := 8) (v := .slice ao75 (List.length (tkO (nbV n l s) (dkR n l s) (tkS n l s))) cp76) En88 (by kernel_rfl) (by kernel_rfl) ?_
   have eT : lsT n x y l s = tkS n l s := by first | exact lsT_1 (by omega) | exact lsT_2 (by omega) | exact lsT_0 (by omega) (by omega)
   simp only [ldO, ldR, ldS, eT]
   exact ⟨ao75, cp76, ta77, tc78, rfl, Hv86.pk [0, 1], (hs7.trans hs79)⟩

theorem dpart_go (w : World) (br : Nat) (n : Nat) (hn : n ≤ 4) (x y : Nat) (hx : x ≤ 4294967295) (hy : y ≤ 4294967295) (a : Option Addr) (c : Nat) (l : List UInt8) (s o : Bool) (i : InB w [.box br [.slice a (List.length l) c, .bool s, .bool o] 154] a c l) (hH : Heap w [.box br [.slice a (List.length l) c, .bool s, .bool o] 154]) : Calls Try.prog 139 #[pt br, ni n, ni x, ni y] w fun e w' => ∃ bp ao cap ta tc, e = .returned (pt bp) ∧ Ev w [.box br [.slice a (List.length l) c, .bool s, .bool o] 154] w' [.box br [.slice ta (List.length (ldR n x y l s)) tc, .bool (ldS n x y l s), .bool o] 154, .box bp [.slice ao (List.length (ldO n x y l s)) cap, .bool (ldS n x y l s), .bool false] 154, .vec ao cap 1 (bys (ldO n x y l s)) 5] ∧ Sub a c l ta tc (ldR n x y l s) := by
 refine d_0 [(0, pt br), (1, ni n), (2, ni x), (3, ni y)] 22 Go.Proofs.Try.func139 Go.Proofs.Try.ntmps139 (hH) fun act0 En0 Hv0 => ?_
 refine d_s [0,1,2,3,8] [] En0 fun ac1 En2 => ?_
 refine wp_seq ?_
 refine region_from ?_
 refine d_k [0,8,10,11,12,13] [] 4 En2 fun ac3 En4 => ?_
 refine f_o ?_
 refine c_l [0] (M := [.box br [.slice a (List.length l) c, .bool s, .bool o] 154]) En4 Hv0 (fun hM10 => dlist_go _ br n (by omega) x y (by omega) (by omega) a c l s o ((i.ev Hv0).pick [0] (by kernel_rfl)) hM10) ?_
 rintro _ wo11 ⟨ao5, cp6, ta7, tc8, rfl, he12, hs9⟩
 refine ⟨_, _, [.box br [.slice ta7 (List.length (ldR n x y l s)) tc8, .bool (ldS n x y l s), .bool o] 154, .vec ao5 cp6 1 (bys (ldO n x y l s)) 5], rfl, he12, by kernel_rfl, fun ac14 En15 Hv16 => ?_⟩
 refine d_e [0,8,9] [] En15 fun ac17 En18 => ?_
 refine then_normal ?_
 refine wp_seq ?_
 refine region_from ?_
 refine d_k [0,8,15,18] [] 4 En18 fun ac19 En20 => ?_
 refine f_o ?_
 refine m_l 0 En20 Hv16 fun ac21 En22 => ?_
 refine d_k [0,8,20] [] 6 En22 fun ac23 En24 => ?_
 refine f_o ?_
 refine m_m 154 [.slice ao5 (List.length (ldO n x y l s)) cp6, .bool (ldS n x y l s), .bool false] En24 Hv16 fun ac26 wo27 bk25 En28 Hv29 => ?_
 refine d_e [0,8] [] En28 fun ac30 En31 => ?_
 refine then_normal ?_
 refine wp_ret ?_
 refine d_ret1 (t := 8) (v := pt bk25) En31 (by kernel_rfl) (by kernel_rfl) ?_
 exact ⟨bk25, ao5, cp6, ta7, tc8, rfl, Hv29.pk [0, 2, 1], hs9⟩

def endV (s : Bool) (n : Nat) (o : Bool) : Int := if s = true ∨ 0 < n then 50 else if o = true then 47 else 0
theorem end_1 {s : Bool} {n : Nat} {o : Bool} (h : s = true) : (50 : Int) = endV s n o := by rw [endV, if_pos (.inl h)]
theorem end_2 {s : Bool} {n : Nat} {o : Bool} (h : 0 < n) : (50 : Int) = endV s n o := by rw [endV, if_pos (.inr h)]
theorem end_3 {s : Bool} {n : Nat} {o : Bool} (h : ¬ s = true) (h2 : ¬ 0 < n) (h3 : o = true) : (47 : Int) = endV s n o := by rw [endV, if_neg (fun g => g.elim h h2), if_pos h3]
theorem end_4 {s : Bool} {n : Nat} {o : Bool} (h : ¬ s = true) (h2 : ¬ 0 < n) (h3 : ¬ o = true) : (0 : Int) = endV s n o := by rw [endV, if_neg (fun g => g.elim h h2), if_neg h3]

theorem dmore_t (w : World) (br : Nat) (a : Option Addr) (n c : Nat) (o : Bool) (hH : Heap w [.box br [.slice a n c, .bool true, .bool o] 154]) : Calls Try.prog 142 #[pt br] w fun e w' => e = .returned (.bool false) ∧ Ev w [.box br [.slice a n c, .bool true, .bool o] 154] w' [.box br [.slice a n c, .bool true, .bool o] 154] := by
 refine d_0 [(0, pt br)] 16 Go.Proofs.Try.func142 Go.Proofs.Try.ntmps142 (hH) fun act0 En0 Hv0 => ?_
 refine d_s [0,2] [] En0 fun ac1 En2 => ?_
 refine wp_seq ?_
 refine region_from ?_
 refine d_k [0,2,5] [] 3 En2 fun ac3 En4 => ?_
 refine f_o ?_
 refine m_l 0 En4 Hv0 fun ac5 En6 => ?_
 refine d_e [2] [] En6 fun ac7 En8 => ?_
 refine then_normal ?_
 refine wp_ret ?_
 refine d_ret1 (t := 2) (v := .bool false) En8 (by kernel_rfl) (by kernel_rfl) ?_
 exact ⟨rfl, Hv0.pk [0]⟩

theorem dmore_f (w : World) (br : Nat) (a : Option Addr) (n c : Nat) (o : Bool) (hH : Heap w [.box br [.slice a n c, .bool false, .bool o] 154]) : Calls Try.prog 142 #[pt br] w fun e w' => e = .returned (.bool (decide (0 < n))) ∧ Ev w [.box br [.slice a n c, .bool false, .bool o] 154] w' [.box br [.slice a n c, .bool false, .bool o] 154] := by
 refine d_0 [(0, pt br)] 16 Go.Proofs.Try.func142 Go.Proofs.Try.ntmps142 (hH) fun act0 En0 Hv0 => ?_
 refine d_s [0,2] [] En0 fun ac1 En2 => ?_
 refine wp_seq ?_
 refine region_from ?_
 refine d_k [0,2,5] [] 3 En2 fun ac3 En4 => ?_
 refine f_o ?_
 refine m_l 0 En4 Hv0 fun ac5 En6 => ?_
 refine d_k [2,8,11] [] 9 En6 fun ac7 En8 => ?_
 refine f_o ?_
 refine m_l 0 En8 Hv0 fun ac9 En10 => ?_
 refine d_e [2] [] En10 fun ac11 En12 => ?_
 refine then_normal ?_
 refine wp_ret ?_
 refine d_ret1 (t := 2) (v := .bool (decide (((n : Nat) : Int) > (0 : Int)))) En12 (by kernel_rfl) (by kernel_rfl) ?_
 exact ⟨congrArg (fun b => Ending.returned (Value.bool b)) (decide_eq_decide.2 (by omega)), Hv0.pk [0]⟩

theorem dmore_go (w : World) (br : Nat) (a : Option Addr) (n c : Nat) (s o : Bool) (hH : Heap w [.box br [.slice a n c, .bool s, .bool o] 154]) : Calls Try.prog 142 #[pt br] w fun e w' => e = .returned (.bool (!s && decide (0 < n))) ∧ Ev w [.box br [.slice a n c, .bool s, .bool o] 154] w' [.box br [.slice a n c, .bool s, .bool o] 154] := by
  cases s
  · exact dmore_f w br a n c o hH
  · exact dmore_t w br a n c o hH

theorem dend_go (w : World) (br : Nat) (a : Option Addr) (n c : Nat) (s o : Bool) (hH : Heap w [.box br [.slice a n c, .bool s, .bool o] 154]) : Calls Try.prog 144 #[pt br] w fun e w' => e = .returned (.int .i64 (endV s n o)) ∧ Ev w [.box br [.slice a n c, .bool s, .bool o] 154] w' [.box br [.slice a n c, .bool s, .bool o] 154] := by
 refine d_0 [(0, pt br)] 19 Go.Proofs.Try.func144 Go.Proofs.Try.ntmps144 (hH) fun act0 En0 Hv0 => ?_
 refine d_s [0,2] [] En0 fun ac1 En2 => ?_
 refine wp_seq ?_
 refine wp_seq ?_
 refine region_from ?_
 refine d_k [0,2,5] [] 3 En2 fun ac3 En4 => ?_
 refine f_o ?_
 refine m_l 0 En4 Hv0 fun ac5 En6 => ?_
 refine d_k [0,2,7] [] 5 En6 fun ac7 En8 => ?_
 rcases Bool.eq_false_or_eq_true (s) with hb9 | hb9
 ·
  have En10 := En8.fx (t := 7) (congrArg Value.bool hb9)
  have hp11 : s = true := hb9
  refine d_e [0,2,14] [] En10 fun ac12 En13 => ?_
  refine then_normal ?_
  refine c_t En13 ?_
  refine d_s [0,2] [] En13 fun ac14 En15 => ?_
  refine wp_ret ?_
  refine then_ret ?_
  refine d_ret1 (t := 2) (v := .int .i64 50) En15 (by kernel_rfl) (by kernel_rfl) ?_
  exact ⟨congrArg (fun z => Ending.returned (Value.int .i64 z)) (by first | exact end_1 (by assumption) | exact end_2 (by omega) | exact end_3 (by assumption) (by omega) (by assumption) | exact end_4 (by assumption) (by omega) (by assumption)), Hv0.pk [0]⟩
 ·
  have En16 := En8.fx (t := 7) (congrArg Value.bool hb9)
  have hp17 : ¬ (s = true) := Bool.eq_false_iff.1 hb9
  refine d_k [0,2,7,10] [] 8 En16 fun ac18 En19 => ?_
  refine f_o ?_
  refine m_l 0 En19 Hv0 fun ac20 En21 => ?_
  refine d_e [0,2,14] [] En21 fun ac22 En23 => ?_
  refine then_normal ?_
  refine c_d (((n : Nat) : Int) > (0 : Int)) En23 (fun hc24 => ?_) (fun hc24 => ?_)
  ·
   refine d_s [0,2] [] En23 fun ac25 En26 => ?_
   refine wp_ret ?_
   refine then_ret ?_
   refine d_ret1 (t := 2) (v := .int .i64 50) En26 (by kernel_rfl) (by kernel_rfl) ?_
   exact ⟨congrArg (fun z => Ending.returned (Value.int .i64 z)) (by first | exact end_1 (by assumption) | exact end_2 (by omega) | exact end_3 (by assumption) (by omega) (by assumption) | exact end_4 (by assumption) (by omega) (by assumption)), Hv0.pk [0]⟩
  ·
   refine wp_skip ?_
   refine then_normal ?_
   refine wp_seq ?_
   refine wp_seq ?_
   refine region_from ?_
   refine d_k [0,2,17] [] 3 En23 fun ac27 En28 => ?_
   refine f_o ?_
   refine m_l 0 En28 Hv0 fun ac29 En30 => ?_
   refine f_e ?_
   refine then_normal ?_
   refine cond_at En30 (t := o) (by kernel_rfl) (fun hc31 => ?_) (fun hc31 => ?_)
   ·
    replace hc31 : o = true := hc31
    refine d_s [0,2] [] En30 fun ac32 En33 => ?_
    refine wp_ret ?_
    refine then_ret ?_
    refine d_ret1 (t := 2) (v := .int .i64 47) En33 (by kernel_rfl) (by kernel_rfl) ?_
    exact ⟨congrArg (fun z => Ending.returned (Value.int .i64 z)) (by first | exact end_1 (by assumption) | exact end_2 (by omega) | exact end_3 (by assumption) (by omega) (by assumption) | exact end_4 (by assumption) (by omega) (by assumption)), Hv0.pk [0]⟩
   ·
    replace hc31 : ¬ (o = true) := Bool.eq_false_iff.1 hc31
    refine wp_skip ?_
    refine then_normal ?_
    refine d_s [0,2] [] En30 fun ac34 En35 => ?_
    refine wp_ret ?_
    refine d_ret1 (t := 2) (v := .int .i64 0) En35 (by kernel_rfl) (by kernel_rfl) ?_
    exact ⟨congrArg (fun z => Ending.returned (Value.int .i64 z)) (by first | exact end_1 (by assumption) | exact end_2 (by omega) | exact end_3 (by assumption) (by omega) (by assumption) | exact end_4 (by assumption) (by omega) (by assumption)), Hv0.pk [0]⟩

theorem dwith_tt (w : World) (br bp : Nat) (a : Option Addr) (n c : Nat) (a1 : Option Addr) (n1 c1 : Nat) (s1 o1 : Bool) (hH : Heap w [.box br [.slice a n c, .bool true, .bool true] 154, .box bp [.slice a1 n1 c1, .bool s1, .bool o1] 154]) : Calls Try.prog 143 #[pt br, pt bp] w fun e w' => e = .returned (.tuple #[]) ∧ Ev w [.box br [.slice a n c, .bool true, .bool true] 154, .box bp [.slice a1 n1 c1, .bool s1, .bool o1] 154] w' [.box br [.slice a n c, .bool true, .bool true] 154, .box bp [.slice a1 n1 c1, .bool s1, .bool o1] 154] := by
 refine d_0 [(0, pt br), (1, pt bp)] 30 Go.Proofs.Try.func143 Go.Proofs.Try.ntmps143 (hH) fun act0 En0 Hv0 => ?_
 refine wp_seq ?_
 refine region_from ?_
 refine d_k [0,1,4,7] [] 4 En0 fun ac1 En2 => ?_
 refine f_o ?_
 refine m_l 0 En2 Hv0 fun ac3 En4 => ?_
 refine d_k [0,1,14,16] [] 13 En4 fun ac5 En6 => ?_
 refine f_o ?_
 refine m_s 0 [.box br [.slice a n c, .bool true, .bool true] 154, .box bp [.slice a1 n1 c1, .bool s1, .bool o1] 154] En6 Hv0 fun ac7 wo8 En9 Hv10 => ?_
 refine f_e ?_
 refine then_normal ?_
 refine region_from ?_
 refine d_k [0,1,17,20] [] 4 En9 fun ac11 En12 => ?_
 refine f_o ?_
 refine m_l 0 En12 Hv10 fun ac13 En14 => ?_
 refine d_k [0,1,27,29] [] 13 En14 fun ac15 En16 => ?_
 refine f_o ?_
 refine m_s 0 [.box br [.slice a n c, .bool true, .bool true] 154, .box bp [.slice a1 n1 c1, .bool s1, .bool o1] 154] En16 Hv10 fun ac17 wo18 En19 Hv20 => ?_
 refine f_e ?_
 refine d_end0 En19 (by kernel_rfl) ?_
 exact ⟨rfl, Hv20.pk [0, 1]⟩

theorem dwith_tf (w : World) (br bp : Nat) (a : Option Addr) (n c : Nat) (a1 : Option Addr) (n1 c1 : Nat) (s1 o1 : Bool) (hH : Heap w [.box br [.slice a n c, .bool true, .bool false] 154, .box bp [.slice a1 n1 c1, .bool s1, .bool o1] 154]) : Calls Try.prog 143 #[pt br, pt bp] w fun e w' => e = .returned (.tuple #[]) ∧ Ev w [.box br [.slice a n c, .bool true, .bool false] 154, .box bp [.slice a1 n1 c1, .bool s1, .bool o1] 154] w' [.box br [.slice a n c, .bool true, .bool o1] 154, .box bp [.slice a1 n1 c1, .bool s1, .bool o1] 154] := by
 refine d_0 [(0, pt br), (1, pt bp)] 30 Go.Proofs.Try.func143 Go.Proofs.Try.ntmps143 (hH) fun act0 En0 Hv0 => ?_
 refine wp_seq ?_
 refine region_from ?_
 refine d_k [0,1,4,7] [] 4 En0 fun ac1 En2 => ?_
 refine f_o ?_
 refine m_l 0 En2 Hv0 fun ac3 En4 => ?_
 refine d_k [0,1,14,16] [] 13 En4 fun ac5 En6 => ?_
 refine f_o ?_
 refine m_s 0 [.box br [.slice a n c, .bool true, .bool false] 154, .box bp [.slice a1 n1 c1, .bool s1, .bool o1] 154] En6 Hv0 fun ac7 wo8 En9 Hv10 => ?_
 refine f_e ?_
 refine then_normal ?_
 refine region_from ?_
 refine d_k [0,1,17,20] [] 4 En9 fun ac11 En12 => ?_
 refine f_o ?_
 refine m_l 0 En12 Hv10 fun ac13 En14 => ?_
 refine d_k [0,1,17,22,25] [] 9 En14 fun ac15 En16 => ?_
 refine f_o ?_
 refine m_l 1 En16 Hv10 fun ac17 En18 => ?_
 refine d_k [0,1,27,29] [] 13 En18 fun ac19 En20 => ?_
 refine f_o ?_
 refine m_s 0 [.box br [.slice a n c, .bool true, .bool o1] 154, .box bp [.slice a1 n1 c1, .bool s1, .bool o1] 154] En20 Hv10 fun ac21 wo22 En23 Hv24 => ?_
 refine f_e ?_
 refine d_end0 En23 (by kernel_rfl) ?_
 exact ⟨rfl, Hv24.pk [0, 1]⟩

theorem dwith_ft (w : World) (br bp : Nat) (a : Option Addr) (n c : Nat) (a1 : Option Addr) (n1 c1 : Nat) (s1 o1 : Bool) (hH : Heap w [.box br [.slice a n c, .bool false, .bool true] 154, .box bp [.slice a1 n1 c1, .bool s1, .bool o1] 154]) : Calls Try.prog 143 #[pt br, pt bp] w fun e w' => e = .returned (.tuple #[]) ∧ Ev w [.box br [.slice a n c, .bool false, .bool true] 154, .box bp [.slice a1 n1 c1, .bool s1, .bool o1] 154] w' [.box br [.slice a n c, .bool s1, .bool true] 154, .box bp [.slice a1 n1 c1, .bool s1, .bool o1] 154] := by
 refine d_0 [(0, pt br), (1, pt bp)] 30 Go.Proofs.Try.func143 Go.Proofs.Try.ntmps143 (hH) fun act0 En0 Hv0 => ?_
 refine wp_seq ?_
 refine region_from ?_
 refine d_k [0,1,4,7] [] 4 En0 fun ac1 En2 => ?_
 refine f_o ?_
 refine m_l 0 En2 Hv0 fun ac3 En4 => ?_
 refine d_k [0,1,4,9,12] [] 9 En4 fun ac5 En6 => ?_
 refine f_o ?_
 refine m_l 1 En6 Hv0 fun ac7 En8 => ?_
 refine d_k [0,1,14,16] [] 13 En8 fun ac9 En10 => ?_
 refine f_o ?_
 refine m_s 0 [.box br [.slice a n c, .bool s1, .bool true] 154, .box bp [.slice a1 n1 c1, .bool s1, .bool o1] 154] En10 Hv0 fun ac11 wo12 En13 Hv14 => ?_
 refine f_e ?_
 refine then_normal ?_
 refine region_from ?_
 refine d_k [0,1,17,20] [] 4 En13 fun ac15 En16 => ?_
 refine f_o ?_
 refine m_l 0 En16 Hv14 fun ac17 En18 => ?_
 refine d_k [0,1,27,29] [] 13 En18 fun ac19 En20 => ?_
 refine f_o ?_
 refine m_s 0 [.box br [.slice a n c, .bool s1, .bool true] 154, .box bp [.slice a1 n1 c1, .bool s1, .bool o1] 154] En20 Hv14 fun ac21 wo22 En23 Hv24 => ?_
 refine f_e ?_
 refine d_end0 En23 (by kernel_rfl) ?_
 exact ⟨rfl, Hv24.pk [0, 1]⟩

theorem dwith_ff (w : World) (br bp : Nat) (a : Option Addr) (n c : Nat) (a1 : Option Addr) (n1 c1 : Nat) (s1 o1 : Bool) (hH : Heap w [.box br [.slice a n c, .bool false, .bool false] 154, .box bp [.slice a1 n1 c1, .bool s1, .bool o1] 154]) : Calls Try.prog 143 #[pt br, pt bp] w fun e w' => e = .returned (.tuple #[]) ∧ Ev w [.box br [.slice a n c, .bool false, .bool false] 154, .box bp [.slice a1 n1 c1, .bool s1, .bool o1] 154] w' [.box br [.slice a n c, .bool s1, .bool o1] 154, .box bp [.slice a1 n1 c1, .bool s1, .bool o1] 154] := by
 refine d_0 [(0, pt br), (1, pt bp)] 30 Go.Proofs.Try.func143 Go.Proofs.Try.ntmps143 (hH) fun act0 En0 Hv0 => ?_
 refine wp_seq ?_
 refine region_from ?_
 refine d_k [0,1,4,7] [] 4 En0 fun ac1 En2 => ?_
 refine f_o ?_
 refine m_l 0 En2 Hv0 fun ac3 En4 => ?_
 refine d_k [0,1,4,9,12] [] 9 En4 fun ac5 En6 => ?_
 refine f_o ?_
 refine m_l 1 En6 Hv0 fun ac7 En8 => ?_
 refine d_k [0,1,14,16] [] 13 En8 fun ac9 En10 => ?_
 refine f_o ?_
 refine m_s 0 [.box br [.slice a n c, .bool s1, .bool false] 154, .box bp [.slice a1 n1 c1, .bool s1, .bool o1] 154] En10 Hv0 fun ac11 wo12 En13 Hv14 => ?_
 refine f_e ?_
 refine then_normal ?_
 refine region_from ?_
 refine d_k [0,1,17,20] [] 4 En13 fun ac15 En16 => ?_
 refine f_o ?_
 refine m_l 0 En16 Hv14 fun ac17 En18 => ?_
 refine d_k [0,1,17,22,25] [] 9 En18 fun ac19 En20 => ?_
 refine f_o ?_
 refine m_l 1 En20 Hv14 fun ac21 En22 => ?_
 refine d_k [0,1,27,29] [] 13 En22 fun ac23 En24 => ?_
 refine f_o ?_
 refine m_s 0 [.box br [.slice a n c, .bool s1, .bool o1] 154, .box bp [.slice a1 n1 c1, .bool s1, .bool o1] 154] En24 Hv14 fun ac25 wo26 En27 Hv28 => ?_
 refine f_e ?_
 refine d_end0 En27 (by kernel_rfl) ?_
 exact ⟨rfl, Hv28.pk [0, 1]⟩

theorem dwith_go (w : World) (br bp : Nat) (a : Option Addr) (n c : Nat) (s o : Bool) (a1 : Option Addr) (n1 c1 : Nat) (s1 o1 : Bool) (hH : Heap w [.box br [.slice a n c, .bool s, .bool o] 154, .box bp [.slice a1 n1 c1, .bool s1, .bool o1] 154]) : Calls Try.prog 143 #[pt br, pt bp] w fun e w' => e = .returned (.tuple #[]) ∧ Ev w [.box br [.slice a n c, .bool s, .bool o] 154, .box bp [.slice a1 n1 c1, .bool s1, .bool o1] 154] w' [.box br [.slice a n c, .bool (s || s1), .bool (o || o1)] 154, .box bp [.slice a1 n1 c1, .bool s1, .bool o1] 154] := by
  cases s
  · cases o
    · exact dwith_ff w br bp a n c a1 n1 c1 s1 o1 hH
    · exact dwith_ft w br bp a n c a1 n1 c1 s1 o1 hH
  · cases o
    · exact dwith_tf w br bp a n c a1 n1 c1 s1 o1 hH
    · exact dwith_tt w br bp a n c a1 n1 c1 s1 o1 hH

end Go.Proofs.Ytofecellbfhnjaa

/- Slices of structs that are made; parts of a list that are read one by one. -/

namespace Go.Dbr
open Go Go.RowKit
section
variable {α : Type}
theorem sv_len {f : α → List Value} {sz : Nat} (hf : ∀ x, (f x).length = sz) : ∀ l : List α, (l.flatMap f).length = l.length * sz
  | [] => by simp
  | y :: r => by rw [List.flatMap_cons, List.length_append, hf, sv_len hf r, List.length_cons, Nat.succ_mul, Nat.add_comm]
theorem flat_one {f : α → List Value} (hf : ∀ x, ∀ u ∈ f x, u.oneCell' = true) (l : List α) : ∀ u ∈ l.flatMap f, u.oneCell' = true := fun u hu => by
  obtain ⟨x, _, hx⟩ := List.mem_flatMap.1 hu
  exact hf x u hx

/-! parts, one by one -/
abbrev PS := List UInt8 × Bool × Bool
def mnf (one : List UInt8 → Bool → Bool → α × PS) : Nat → PS → List α × PS
  | 0, p => ([], p)
  | f + 1, p => if p.2.1 = true ∨ p.1 = [] then ([], p) else ((one p.1 p.2.1 p.2.2).1 :: (mnf one f (one p.1 p.2.1 p.2.2).2).1, (mnf one f (one p.1 p.2.1 p.2.2).2).2)
def mn (one : List UInt8 → Bool → Bool → α × PS) (p : PS) : List α × PS := mnf one p.1.length p
/-- each part takes something -/
structure Dec (one : List UInt8 → Bool → Bool → α × PS) : Prop where
  lt : ∀ l o, l ≠ [] → (one l false o).2.2.1 = false → (one l false o).2.1.length < l.length
  le : ∀ l o, (one l false o).2.1.length ≤ l.length
variable {one : List UInt8 → Bool → Bool → α × PS}
theorem mnf_end {p : PS} (h : p.2.1 = true ∨ p.1 = []) : ∀ f, mnf one f p = ([], p)
  | 0 => rfl
  | f + 1 => by rw [mnf, if_pos h]
theorem mnf_any (D : Dec one) : ∀ (n : Nat) (p : PS), p.1.length ≤ n → ∀ f g, p.1.length ≤ f → p.1.length ≤ g → mnf one f p = mnf one g p
  | n, p, hn, f, g, hf, hg => by
    by_cases h : p.2.1 = true ∨ p.1 = []
    · rw [mnf_end h, mnf_end h]
    · have hs : p.2.1 = false := by
        cases e : p.2.1 with
        | true => exact absurd (.inl e) h
        | false => rfl
      have hl : p.1 ≠ [] := fun e => h (.inr e)
      have h0 : 0 < p.1.length := List.length_pos_iff.2 hl
      match n, f, g, hn, hf, hg with
      | 0, _, _, hn, _, _ => omega
      | n + 1, 0, _, _, hf, _ => omega
      | n + 1, f + 1, 0, _, _, hg => omega
      | n + 1, f + 1, g + 1, hn, hf, hg =>
        rw [mnf, mnf, if_neg h, if_neg h]
        have key : mnf one f (one p.1 p.2.1 p.2.2).2 = mnf one g (one p.1 p.2.1 p.2.2).2 := by
          rw [hs]
          by_cases hq : (one p.1 false p.2.2).2.2.1 = true
          · rw [mnf_end (.inl hq), mnf_end (.inl hq)]
          · have := D.lt p.1 p.2.2 hl (Bool.eq_false_iff.2 hq)
            exact mnf_any D n _ (by omega) f g (by omega) (by omega)
        rw [key]
theorem mn_end {p : PS} (h : p.2.1 = true ∨ p.1 = []) : mn one p = ([], p) := mnf_end h _
theorem mn_step (D : Dec one) {l : List UInt8} {s o : Bool} (hs : s = false) (h0 : 0 < l.length) : mn one (l, s, o) = ((one l s o).1 :: (mn one (one l s o).2).1, (mn one (one l s o).2).2) := by
  subst hs
  have hl : l ≠ [] := List.length_pos_iff.1 h0
  have hn : ¬ (((l, false, o) : PS).2.1 = true ∨ ((l, false, o) : PS).1 = []) := fun g => g.elim (fun e => by cases e) hl
  have e : mn one (l, false, o) = mnf one ((l.length - 1) + 1) (l, false, o) := by
    show mnf one l.length (l, false, o) = _
    rw [show l.length - 1 + 1 = l.length by omega]
  rw [e, mnf, if_neg hn]
  have key : mnf one (l.length - 1) (one l false o).2 = mn one (one l false o).2 := by
    by_cases hq : (one l false o).2.2.1 = true
    · rw [mnf_end (.inl hq), mn_end (.inl hq)]
    · have := D.lt l o hl (Bool.eq_false_iff.2 hq)
      exact mnf_any D _ _ (Nat.le_refl _) _ _ (by omega) (Nat.le_refl _)
  show ((one l false o).1 :: (mnf one (l.length - 1) (one l false o).2).1, (mnf one (l.length - 1) (one l false o).2).2) = _
  rw [key]
end
end Go.Dbr

/- Layer 17: many parts, one by one; numbers. -/


namespace Go.Proofs.Ytofecellbfhnjaa
open Go.Dbr
set_option maxRecDepth 100000
set_option maxHeartbeats 2000000
set_option linter.unusedVariables false
set_option linter.unusedSimpArgs false

abbrev RU16 := UInt16
abbrev fU16 : RU16 → List Value := (fun n : UInt16 => [uv16 n])
def u16M (l : Bs) (s o : Bool) : UInt16 × PS := (UInt16.ofNat (nbV 2 l s), tkR 2 l s, tkS 2 l s, o)
def du16M (l : Bs) (s o : Bool) : UInt16 × PS := (UInt16.ofNat (nbV 2 l s), dkR 2 l s, tkS 2 l s, o)
theorem tk_lt {n : Nat} (hn : 0 < n) {l : Bs} (h : l ≠ []) : (tkR n l false).length < l.length := by
  have h0 : 0 < l.length := List.length_pos_iff.2 h
  unfold tkR
  cases tkS n l false with
  | true => exact h0
  | false => rw [Bool.cond_false, List.length_drop]; omega
theorem dk_lt {n : Nat} (hn : 0 < n) {l : Bs} (h : l ≠ []) (hs : tkS n l false = false) : (dkR n l false).length < l.length := by
  have h0 : 0 < l.length := List.length_pos_iff.2 h
  unfold dkR
  rw [hs, Bool.cond_false, List.length_drop]; omega
theorem u16_dec : Dec u16M := ⟨fun l _ h _ => tk_lt (by decide) h, fun l _ => tkR_len _ _ _⟩
theorem du16_dec : Dec du16M := ⟨fun l _ h hs => dk_lt (by decide) h hs, fun l _ => dkR_len _ _ _⟩

theorem u16_go (w : World) (br : Nat) (a : Option Addr) (c : Nat) (l : List UInt8) (s o : Bool) (i : InB w [.box br [.slice a (List.length l) c, .bool s, .bool o] 120] a c l) (hH : Heap w [.box br [.slice a (List.length l) c, .bool s, .bool o] 120]) : Calls Try.prog 148 #[pt br] w fun e w' => ∃ ta tc, e = .returned (.int .u16 ((UInt16.toNat (UInt16.ofNat (nbV 2 l s)) : Nat) : Int)) ∧ Ev w [.box br [.slice a (List.length l) c, .bool s, .bool o] 120] w' [.box br [.slice ta (List.length (tkR 2 l s)) tc, .bool (tkS 2 l s), .bool o] 120] ∧ Sub a c l ta tc (tkR 2 l s) := by
 refine d_0 [(0, pt br)] 6 Go.Proofs.Try.func148 Go.Proofs.Try.ntmps148 (hH) fun act0 En0 Hv0 => ?_
 refine d_s [0,2] [] En0 fun ac1 En2 => ?_
 refine wp_seq ?_
 refine region_from ?_
 refine d_k [2,3] [] 1 En2 fun ac3 En4 => ?_
 refine f_o ?_
 refine c_l [0] (M := [.box br [.slice a (List.length l) c, .bool s, .bool o] 120]) En4 Hv0 (fun hM8 => number_go _ br 2 (by omega) a c l s o ((i.ev Hv0).pick [0] (by kernel_rfl)) hM8) ?_
 rintro _ wo9 ⟨ta5, tc6, rfl, he10, hs7⟩
 refine ⟨_, _, [.box br [.slice ta5 (List.length (tkR 2 l s)) tc6, .bool (tkS 2 l s), .bool o] 120], rfl, he10, by kernel_rfl, fun ac12 En13 Hv14 => ?_⟩
 refine d_e [2] [(2, g_i .u16 (Go.Dbr.nat_to_u16 (a := ((nbV 2 l s : Nat) : Int)) (n := nbV 2 l s) rfl))] En13 fun ac15 En16 => ?_
 refine then_normal ?_
 refine wp_ret ?_
 refine d_ret1 (t := 2) (v := .int .u16 ((UInt16.toNat (UInt16.ofNat (nbV 2 l s)) : Nat) : Int)) En16 (by kernel_rfl) (by kernel_rfl) ?_
 exact ⟨ta5, tc6, rfl, Hv14.pk [0], hs7⟩

theorem dec_lt {α : Type} {one : Bs → Bool → Bool → α × PS} (D : Dec one) {l : Bs} {s o : Bool} (hs : s = false) (h0 : 0 < l.length) : (one l s o).2.2.1 = false → (one l s o).2.1.length < l.length := by
  subst hs
  exact D.lt l o (List.length_pos_iff.1 h0)
theorem dec_le {α : Type} {one : Bs → Bool → Bool → α × PS} (D : Dec one) {l : Bs} {s o : Bool} (hs : s = false) : (one l s o).2.1.length ≤ l.length := by
  subst hs
  exact D.le l o
theorem mn_mu {s1 s2 : Bool} {n m : Nat} (hs : s1 = false) (h0 : 0 < n) (h : s2 = false → m < n) : (bif s2 then 0 else m + 1) < (bif s1 then 0 else n + 1) := by
  subst hs
  cases s2 with
  | true => exact Nat.succ_pos _
  | false => exact Nat.succ_lt_succ (h rfl)
theorem mn_ct {α : Type} {xs : List α} {y : α} {s1 s2 : Bool} {n m N : Nat} (hs : s1 = false) (hc : xs.length + n ≤ N + (bif s1 then 1 else 0)) (h : s2 = false → m < n) (h2 : m ≤ n) (h0 : 0 < n) : (xs ++ [y]).length + m ≤ N + (bif s2 then 1 else 0) := by
  subst hs
  rw [List.length_append, List.length_singleton]
  cases s2 with
  | true => simp only [Bool.cond_true, Bool.cond_false] at *; omega
  | false => have := h rfl; simp only [Bool.cond_false] at *; omega
theorem mn_b1 (s : Bool) : (bif s then 1 else 0) ≤ 1 := by cases s <;> decide
theorem mn_c1 {n m N : Nat} {s1 : Bool} (h : n + m ≤ N + (bif s1 then 1 else 0)) : n ≤ N + 1 := by
  cases s1 with
  | true => simp only [Bool.cond_true] at h; omega
  | false => simp only [Bool.cond_false] at h; omega

theorem many_u16 (w : World) (br : Nat) (n : Nat) (hn : n ≤ 4) (x : Nat) (hx : x ≤ 4294967295) (a : Option Addr) (c : Nat) (l : List UInt8) (s o : Bool) (i : InB w [.box br [.slice a (List.length l) c, .bool s, .bool o] 120] a c l) (hH : Heap w [.box br [.slice a (List.length l) c, .bool s, .bool o] 120]) : Calls Try.prog 147 #[pt br, ni n, ni x, .func (.func 148) #[] #[]] w fun e w' => ∃ ta tc oa oc xs, e = .returned (.slice oa (List.length xs) oc) ∧ Ev w [.box br [.slice a (List.length l) c, .bool s, .bool o] 120] w' [.box br [.slice ta (List.length (lsR n x 16777215 l s)) tc, .bool (lsS n x 16777215 l s || (mn u16M ((lsO n x 16777215 l s, lsS n x 16777215 l s, false) : PS)).2.2.1), .bool (o || (mn u16M ((lsO n x 16777215 l s, lsS n x 16777215 l s, false) : PS)).2.2.2)] 120, .vec oa oc 1 (List.flatMap fU16 xs) 37] ∧ Sub a c l ta tc (lsR n x 16777215 l s) ∧ List.map (fun y : RU16 => y) xs = (mn u16M ((lsO n x 16777215 l s, lsS n x 16777215 l s, false) : PS)).1 ∧ List.length xs ≤ List.length (lsO n x 16777215 l s) + 1 := by
 refine d_0 [(0, pt br), (1, ni n), (2, ni x), (3, .func (.func 148) #[] #[])] 69 Go.Proofs.Try.func147 Go.Proofs.Try.ntmps147 (hH) fun act0 En0 Hv0 => ?_
 refine d_s [0,1,2,3,8] [] En0 fun ac1 En2 => ?_
 refine wp_seq ?_
 refine region_from ?_
 refine d_k [0,3,8,12,13,14] [] 3 En2 fun ac3 En4 => ?_
 refine f_o ?_
 refine c_l [0] (M := [.box br [.slice a (List.length l) c, .bool s, .bool o] 120]) En4 Hv0 (fun hM10 => list_go _ br n (by omega) x 16777215 (by omega) (by omega) a c l s o ((i.ev Hv0).pick [0] (by kernel_rfl)) hM10) ?_
 rintro _ wo11 ⟨ao5, cp6, ta7, tc8, rfl, he12, hs9⟩
 refine ⟨_, _, [.box br [.slice ta7 (List.length (lsR n x 16777215 l s)) tc8, .bool (lsS n x 16777215 l s), .bool o] 120, .vec ao5 cp6 1 (bys (lsO n x 16777215 l s)) 5], rfl, he12, by kernel_rfl, fun ac14 En15 Hv16 => ?_⟩
 refine d_e [0,3,8,9] [] En15 fun ac17 En18 => ?_
 refine then_normal ?_
 refine wp_seq ?_
 refine region_from ?_
 refine d_k [0,3,8,16,19] [] 4 En18 fun ac19 En20 => ?_
 refine f_o ?_
 refine m_l 0 En20 Hv16 fun ac21 En22 => ?_
 refine d_k [0,3,8,21] [] 6 En22 fun ac23 En24 => ?_
 refine f_o ?_
 refine m_m 120 [.slice ao5 (List.length (lsO n x 16777215 l s)) cp6, .bool (lsS n x 16777215 l s), .bool false] En24 Hv16 fun ac26 wo27 bk25 En28 Hv29 => ?_
 refine d_e [0,3,8,10] [] En28 fun ac30 En31 => ?_
 refine then_normal ?_
 refine d_s [0,3,8,10,11] [] En31 fun ac32 En33 => ?_
 refine wp_seq ?_
 refine region_cut (F := fun ac wo => ∃ (oa : Option Addr) (oc : Nat) (xs : List (RU16)) (ra : Option Addr) (rc : Nat) (rl : Bs) (s1 : Bool) (o1 : Bool), Env ac 69 [(0, pt br), (3, .func (.func 148) #[] #[]), (8, .slice none 0 0), (10, pt bk25), (11, .slice oa (List.length xs) oc)] ∧ Ev w [.box br [.slice a (List.length l) c, .bool s, .bool o] 120] wo [.box br [.slice ta7 (List.length (lsR n x 16777215 l s)) tc8, .bool (lsS n x 16777215 l s), .bool o] 120, .box bk25 [.slice ra (List.length rl) rc, .bool s1, .bool o1] 120, .vec oa oc 1 (List.flatMap fU16 xs) 37] ∧ (mn u16M ((lsO n x 16777215 l s, lsS n x 16777215 l s, false) : PS) = (List.map (fun y : RU16 => y) xs, rl, s1, o1)) ∧ (List.length xs ≤ List.length (lsO n x 16777215 l s) + 1)) ?_ ?_
 ·
  refine wp_block ?_
  have Hv34 : Ev w [.box br [.slice a (List.length l) c, .bool s, .bool o] 120] wo27 [.box br [.slice ta7 (List.length (lsR n x 16777215 l s)) tc8, .bool (lsS n x 16777215 l s), .bool o] 120, .vec ao5 cp6 1 (bys (lsO n x 16777215 l s)) 5, .box bk25 [.slice ao5 (List.length (lsO n x 16777215 l s)) cp6, .bool (lsS n x 16777215 l s), .bool false] 120, .vec none 0 1 (List.flatMap fU16 []) 37] := Ev.nil (sz := 1) (T := 37) Hv29
  have hO32 : List.length (lsO n x 16777215 l s) ≤ 4294967295 := Nat.le_trans (tkO_len _ _ _) (Nat.le_of_lt_succ (nbV_4 hn l s))
  refine loop_m (fun ms35 ac wo => ∃ (oa : Option Addr) (oc : Nat) (xs : List (RU16)) (ra : Option Addr) (rc : Nat) (rl : Bs) (s1 : Bool) (o1 : Bool), ms35 = (bif s1 then 0 else List.length rl + 1 : Nat) ∧ Env ac 69 [(0, pt br), (3, .func (.func 148) #[] #[]), (8, .slice none 0 0), (10, pt bk25), (11, .slice oa (List.length xs) oc)] ∧ Ev w [.box br [.slice a (List.length l) c, .bool s, .bool o] 120] wo [.box bk25 [.slice ra (List.length rl) rc, .bool s1, .bool o1] 120, .box br [.slice ta7 (List.length (lsR n x 16777215 l s)) tc8, .bool (lsS n x 16777215 l s), .bool o] 120, .vec ao5 cp6 1 (bys (lsO n x 16777215 l s)) 5, .vec oa oc 1 (List.flatMap fU16 xs) 37] ∧ (Sub ao5 cp6 (lsO n x 16777215 l s) ra rc rl) ∧ (mn u16M ((lsO n x 16777215 l s, lsS n x 16777215 l s, false) : PS) = (List.map (fun y : RU16 => y) xs ++ (mn u16M (rl, s1, o1)).1, (mn u16M (rl, s1, o1)).2)) ∧ (List.length xs + List.length rl ≤ List.length (lsO n x 16777215 l s) + (bif s1 then 1 else 0))) ⟨_, none, 0, [], ao5, cp6, (lsO n x 16777215 l s), (lsS n x 16777215 l s), false, rfl, En33.sb, Hv34.pk [2, 0, 1, 3], Sub.self, rfl, (by rw [List.length_nil, Nat.zero_add]; exact Nat.le_add_right _ _)⟩ ?_
  rintro mm41 ac37 wo38 ⟨oa, oc, xs, ra, rc, rl, s1, o1, rfl, En39, Hv40, hsu, hmn, hct⟩
  refine wp_seq ?_
  refine wp_seq ?_
  refine region_from ?_
  refine d_k [0,3,8,10,11,25] [] 3 En39 fun ac42 En43 => ?_
  refine f_o ?_
  refine m_l 0 En43 Hv40 fun ac44 En45 => ?_
  refine d_k [0,3,8,10,11,28] [] 6 En45 fun ac46 En47 => ?_
  rcases Bool.eq_false_or_eq_true (!s1) with hb48 | hb48
  ·
   have En49 := En47.fx (t := 28) (congrArg Value.bool hb48)
   have hp50 : ¬ (s1 = true) := by simpa using hb48
   refine d_k [0,3,8,10,11,28,31] [] 9 En49 fun ac51 En52 => ?_
   refine f_o ?_
   refine m_l 0 En52 Hv40 fun ac53 En54 => ?_
   refine d_e [0,3,8,10,11,35] [] En54 fun ac55 En56 => ?_
   refine then_normal ?_
   refine c_d (((List.length rl : Nat) : Int) > (0 : Int)) En56 (fun hc57 => ?_) (fun hc57 => ?_)
   ·
    refine wp_skip ?_
    refine then_normal ?_
    refine wp_block ?_
    refine region_from ?_
    refine d_k [0,3,8,10,11,36,37,38] [] 3 En56 fun ac58 En59 => ?_
    refine f_o ?_
    refine c_l [0] (M := [.box bk25 [.slice ra (List.length rl) rc, .bool s1, .bool o1] 120]) En59 Hv40 (fun hM63 => u16_go _ bk25 ra rc rl s1 o1 (hsu _ _ (bys_in Hv40.heap (k := 2) rfl [0] (by kernel_rfl) rfl (by first | omega | (simp; done) | (simp; omega)))) hM63) ?_
    rintro _ wo64 ⟨ta60, tc61, rfl, he65, hs62⟩
    refine ⟨_, _, [.box bk25 [.slice ta60 (List.length (tkR 2 rl s1)) tc61, .bool (tkS 2 rl s1), .bool o1] 120, .box br [.slice ta7 (List.length (lsR n x 16777215 l s)) tc8, .bool (lsS n x 16777215 l s), .bool o] 120, .vec ao5 cp6 1 (bys (lsO n x 16777215 l s)) 5, .vec oa oc 1 (List.flatMap fU16 xs) 37], rfl, he65, by kernel_rfl, fun ac67 En68 Hv69 => ?_⟩
    refine f_o ?_
    refine op_lit (d := some 40) (t := 32) (T := 37) (m := 1) (parts := #[(0, .int .u16 ((UInt16.toNat (UInt16.ofNat (nbV 2 rl s1)) : Nat) : Int))]) (xs := List.flatMap fU16 ([UInt16.ofNat (nbV 2 rl s1)] : List (RU16))) (sz := 1) En68 (by kernel_rfl) (by kernel_rfl) rfl (by decide) Hv69 ?_
    intro ac71 wo72 bk70 En73 Hv74
    refine f_o ?_
    refine op_append (d := some 41) (t := 32) (tx := 32) (ty := 32) (k := 3) (p := List.length xs) (m := 1) (x := .slice (some ⟨bk70, 0, none⟩) 1 1) (bytes := 2) En73 (by kernel_rfl) Hv74 rfl (sv_len (f := fU16) (sz := 1) (fun _ => rfl) _) (Reads.src (size := 1) (tx := 32) (e' := 37) (by kernel_rfl) (Hv74.heap.reads (k := 4) rfl) rfl (fun e => by cases e) (flat_one (f := fU16) (fun _ => one_all rfl) _)) (by kernel_rfl) (z := .int .u16 0) (by kernel_rfl) rfl (by decide) (by have hb1 := mn_b1 s1; omega) (by unfold maxLen; have hb1 := mn_b1 s1; omega) ?_
    intro ac79 wo80 ao75 cp76 En81 Hv82 hnz _
    clear hnz
    rw [← List.flatMap_append] at Hv82
    have ehz77 : (List.length xs) + 1 = List.length (xs ++ ([UInt16.ofNat (nbV 2 rl s1)] : List (RU16))) := (by first | (simp; done) | (simp; omega) | omega)
    rw [ehz77] at En81
    refine d_e [0,3,8,10,11] [] En81 fun ac83 En84 => ?_
    refine block_normal ?_
    refine then_normal ?_
    have hl0 : 0 < List.length rl := by omega
    refine ⟨_, ⟨ao75, cp76, (xs ++ ([UInt16.ofNat (nbV 2 rl s1)] : List (RU16))), ta60, tc61, (tkR 2 rl s1), (tkS 2 rl s1), o1, rfl, En84.sb, Hv82.pk [0, 1, 2, 3], (hsu.trans hs62), (by rw [hmn, mn_step u16_dec (Bool.eq_false_iff.2 hp50) hl0, List.map_append, List.append_assoc]; rfl), (mn_ct (Bool.eq_false_iff.2 hp50) hct (dec_lt (o := o1) u16_dec (Bool.eq_false_iff.2 hp50) hl0) (dec_le (o := o1) u16_dec (Bool.eq_false_iff.2 hp50)) hl0)⟩, ?_⟩
    exact mn_mu (Bool.eq_false_iff.2 hp50) hl0 (dec_lt (o := o1) u16_dec (Bool.eq_false_iff.2 hp50) hl0)
   ·
    refine wp_exit ?_
    refine then_exit ?_
    refine then_exit ?_
    refine block_exit ?_
    exact ⟨rfl, ⟨oa, oc, xs, ra, rc, rl, s1, o1, En56.sb, Hv40.pk [1, 0, 3], (by rw [hmn, mn_end (p := (rl, s1, o1)) (by first | exact .inl (by assumption) | exact .inr (show rl = [] from List.length_eq_zero_iff.1 (by omega))), List.append_nil]), (mn_c1 hct)⟩⟩
  ·
   have En85 := En47.fx (t := 28) (congrArg Value.bool hb48)
   have hp86 : s1 = true := by simpa using hb48
   refine d_e [0,3,8,10,11,35] [] En85 fun ac87 En88 => ?_
   refine then_normal ?_
   refine c_f En88 ?_
   refine wp_exit ?_
   refine then_exit ?_
   refine then_exit ?_
   refine block_exit ?_
   exact ⟨rfl, ⟨oa, oc, xs, ra, rc, rl, s1, o1, En88.sb, Hv40.pk [1, 0, 3], (by rw [hmn, mn_end (p := (rl, s1, o1)) (by first | exact .inl (by assumption) | exact .inr (show rl = [] from List.length_eq_zero_iff.1 (by omega))), List.append_nil]), (mn_c1 hct)⟩⟩
 ·
  rintro ac89 wo90 ⟨oa, oc, xs, ra, rc, rl, s1, o1, En91, Hv92, hmn, hct⟩
  refine then_normal ?_
  refine wp_seq ?_
  rcases Bool.eq_false_or_eq_true (lsS n x 16777215 l s) with hb93 | hb93
  ·
   have hb93p : lsS n x 16777215 l s = true := hb93
   rcases Bool.eq_false_or_eq_true (o) with hb94 | hb94
   ·
    have hb94p : o = true := hb94
    refine r_c (fun ac wo => Env ac 69 [(0, pt br), (3, .func (.func 148) #[] #[]), (8, .slice none 0 0), (10, pt bk25), (11, .slice oa (List.length xs) oc)] ∧ Ev w [.box br [.slice a (List.length l) c, .bool s, .bool o] 120] wo [.box br [.slice ta7 (List.length (lsR n x 16777215 l s)) tc8, .bool true, .bool true] 120, .box bk25 [.slice ra (List.length rl) rc, .bool s1, .bool o1] 120, .vec oa oc 1 (List.flatMap fU16 xs) 37]) ?_ ?_
    ·
     refine h_s (fun wv => Ev w [.box br [.slice a (List.length l) c, .bool s, .bool o] 120] wv [.box br [.slice ta7 (List.length (lsR n x 16777215 l s)) tc8, .bool (lsS n x 16777215 l s), .bool o] 120]) [24] 28 ?_
     have wo95 := Hv92.trans (Ev.drew Hv92.heap)
     refine q_s [0,1,2,3,4] [] 23 En91 (wo95.pk [0]) fun ac176 En177 => ?_
     refine q_l 0 5 En177 (wo95.pk [0]) fun ac178 En179 => ?_
     refine q_s [6] [] 21 En179 (wo95.pk [0]) fun ac180 En181 => ?_
     have En182 := En181.fx (t := 47) (congrArg Value.bool hb93)
     have En183 := En182.fx (t := 48) (congrArg Value.bool hb93)
     refine q_s [7,8,9,10,11,12,13,14] [] 13 En183 (wo95.pk [0]) fun ac184 En185 => ?_
     refine q_l 0 15 En185 (wo95.pk [0]) fun ac186 En187 => ?_
     refine q_s [16] [] 11 En187 (wo95.pk [0]) fun ac188 En189 => ?_
     have En190 := En189.fx (t := 57) (congrArg Value.bool hb94)
     have En191 := En190.fx (t := 58) (congrArg Value.bool hb94)
     refine q_s [17,18,19,20,21,22,23] [] 4 En191 (wo95.pk [0]) fun ac192 En193 => ?_
     refine q_t 24 ?_
     refine m_s 0 [.box br [.slice ta7 (List.length (lsR n x 16777215 l s)) tc8, .bool true, .bool o] 120, .box bk25 [.slice ra (List.length rl) rc, .bool s1, .bool o1] 120, .vec oa oc 1 (List.flatMap fU16 xs) 37] En193 wo95 fun ac194 wo195 En196 Hv197 => ?_
     refine ⟨q_y, ?_⟩
     refine q_n [25,26] [] 1 En196 fun ac198 En199 => ?_
     refine q_t 27 ?_
     refine m_s 0 [.box br [.slice ta7 (List.length (lsR n x 16777215 l s)) tc8, .bool true, .bool true] 120, .box bk25 [.slice ra (List.length rl) rc, .bool s1, .bool o1] 120, .vec oa oc 1 (List.flatMap fU16 xs) 37] En199 Hv197 fun ac200 wo201 En202 Hv203 => ?_
     refine ⟨q_y, ?_⟩
     exact h_e ⟨En202.sb, Hv203.pk [0, 1, 2]⟩
    rintro ac204 wo205 ⟨En206, Hv207⟩
    refine then_normal ?_
    refine d_s [0,3,8,10,11] [] En206 fun ac208 En209 => ?_
    refine wp_ret ?_
    refine d_ret1 (t := 8) (v := .slice oa (List.length xs) oc) En209 (by kernel_rfl) (by kernel_rfl) ?_
    have e1 : (lsS n x 16777215 l s || s1) = true := by rw [hb93]; rfl
    have e2 : (o || o1) = true := by rw [hb94]; rfl
    have hfin : Ev w [.box br [.slice a (List.length l) c, .bool s, .bool o] 120] wo205 [.box br [.slice ta7 (List.length (lsR n x 16777215 l s)) tc8, .bool (lsS n x 16777215 l s || s1), .bool (o || o1)] 120, .vec oa oc 1 (List.flatMap fU16 xs) 37] := by rw [e1, e2]; exact Hv207.pk [0, 2]
    exact ⟨ta7, tc8, oa, oc, xs, rfl, by rw [hmn]; exact hfin, hs9, by rw [hmn], hct⟩
   ·
    have hb94p : ¬ (o = true) := Bool.eq_false_iff.1 hb94
    refine r_c (fun ac wo => Env ac 69 [(0, pt br), (3, .func (.func 148) #[] #[]), (8, .slice none 0 0), (10, pt bk25), (11, .slice oa (List.length xs) oc)] ∧ Ev w [.box br [.slice a (List.length l) c, .bool s, .bool o] 120] wo [.box br [.slice ta7 (List.length (lsR n x 16777215 l s)) tc8, .bool true, .bool o1] 120, .box bk25 [.slice ra (List.length rl) rc, .bool s1, .bool o1] 120, .vec oa oc 1 (List.flatMap fU16 xs) 37]) ?_ ?_
    ·
     refine h_s (fun wv => Ev w [.box br [.slice a (List.length l) c, .bool s, .bool o] 120] wv [.box br [.slice ta7 (List.length (lsR n x 16777215 l s)) tc8, .bool (lsS n x 16777215 l s), .bool o] 120, .box bk25 [.slice ra (List.length rl) rc, .bool s1, .bool o1] 120]) [24] 28 ?_
     have wo210 := Hv92.trans (Ev.drew Hv92.heap)
     refine q_s [0,1,2,3,4] [] 23 En91 (wo210.pk [0, 1]) fun ac303 En304 => ?_
     refine q_l 0 5 En304 (wo210.pk [0, 1]) fun ac305 En306 => ?_
     refine q_s [6] [] 21 En306 (wo210.pk [0, 1]) fun ac307 En308 => ?_
     have En309 := En308.fx (t := 47) (congrArg Value.bool hb93)
     have En310 := En309.fx (t := 48) (congrArg Value.bool hb93)
     refine q_s [7,8,9,10,11,12,13,14] [] 13 En310 (wo210.pk [0, 1]) fun ac311 En312 => ?_
     refine q_l 0 15 En312 (wo210.pk [0, 1]) fun ac313 En314 => ?_
     refine q_s [16] [] 11 En314 (wo210.pk [0, 1]) fun ac315 En316 => ?_
     have En317 := En316.fx (t := 57) (congrArg Value.bool hb94)
     have En318 := En317.fx (t := 58) (congrArg Value.bool hb94)
     refine q_s [17,18,19] [] 8 En318 (wo210.pk [0, 1]) fun ac319 En320 => ?_
     refine q_l 1 20 En320 (wo210.pk [0, 1]) fun ac321 En322 => ?_
     refine q_s [21,22,23] [] 4 En322 (wo210.pk [0, 1]) fun ac323 En324 => ?_
     refine q_t 24 ?_
     refine m_s 0 [.box br [.slice ta7 (List.length (lsR n x 16777215 l s)) tc8, .bool true, .bool o] 120, .box bk25 [.slice ra (List.length rl) rc, .bool s1, .bool o1] 120, .vec oa oc 1 (List.flatMap fU16 xs) 37] En324 wo210 fun ac325 wo326 En327 Hv328 => ?_
     refine ⟨q_y, ?_⟩
     refine q_n [25,26] [] 1 En327 fun ac329 En330 => ?_
     refine q_t 27 ?_
     refine m_s 0 [.box br [.slice ta7 (List.length (lsR n x 16777215 l s)) tc8, .bool true, .bool o1] 120, .box bk25 [.slice ra (List.length rl) rc, .bool s1, .bool o1] 120, .vec oa oc 1 (List.flatMap fU16 xs) 37] En330 Hv328 fun ac331 wo332 En333 Hv334 => ?_
     refine ⟨q_y, ?_⟩
     exact h_e ⟨En333.sb, Hv334.pk [0, 1, 2]⟩
    rintro ac335 wo336 ⟨En337, Hv338⟩
    refine then_normal ?_
    refine d_s [0,3,8,10,11] [] En337 fun ac339 En340 => ?_
    refine wp_ret ?_
    refine d_ret1 (t := 8) (v := .slice oa (List.length xs) oc) En340 (by kernel_rfl) (by kernel_rfl) ?_
    have e1 : (lsS n x 16777215 l s || s1) = true := by rw [hb93]; rfl
    have e2 : (o || o1) = o1 := by rw [hb94]; rfl
    have hfin : Ev w [.box br [.slice a (List.length l) c, .bool s, .bool o] 120] wo336 [.box br [.slice ta7 (List.length (lsR n x 16777215 l s)) tc8, .bool (lsS n x 16777215 l s || s1), .bool (o || o1)] 120, .vec oa oc 1 (List.flatMap fU16 xs) 37] := by rw [e1, e2]; exact Hv338.pk [0, 2]
    exact ⟨ta7, tc8, oa, oc, xs, rfl, by rw [hmn]; exact hfin, hs9, by rw [hmn], hct⟩
  ·
   have hb93p : ¬ (lsS n x 16777215 l s = true) := Bool.eq_false_iff.1 hb93
   rcases Bool.eq_false_or_eq_true (o) with hb341 | hb341
   ·
    have hb341p : o = true := hb341
    refine r_c (fun ac wo => Env ac 69 [(0, pt br), (3, .func (.func 148) #[] #[]), (8, .slice none 0 0), (10, pt bk25), (11, .slice oa (List.length xs) oc)] ∧ Ev w [.box br [.slice a (List.length l) c, .bool s, .bool o] 120] wo [.box br [.slice ta7 (List.length (lsR n x 16777215 l s)) tc8, .bool s1, .bool true] 120, .box bk25 [.slice ra (List.length rl) rc, .bool s1, .bool o1] 120, .vec oa oc 1 (List.flatMap fU16 xs) 37]) ?_ ?_
    ·
     refine h_s (fun wv => Ev w [.box br [.slice a (List.length l) c, .bool s, .bool o] 120] wv [.box br [.slice ta7 (List.length (lsR n x 16777215 l s)) tc8, .bool (lsS n x 16777215 l s), .bool o] 120, .box bk25 [.slice ra (List.length rl) rc, .bool s1, .bool o1] 120]) [24] 28 ?_
     have wo342 := Hv92.trans (Ev.drew Hv92.heap)
     refine q_s [0,1,2,3,4] [] 23 En91 (wo342.pk [0, 1]) fun ac457 En458 => ?_
     refine q_l 0 5 En458 (wo342.pk [0, 1]) fun ac459 En460 => ?_
     refine q_s [6] [] 21 En460 (wo342.pk [0, 1]) fun ac461 En462 => ?_
     have En463 := En462.fx (t := 47) (congrArg Value.bool hb93)
     have En464 := En463.fx (t := 48) (congrArg Value.bool hb93)
     refine q_s [7,8,9] [] 18 En464 (wo342.pk [0, 1]) fun ac465 En466 => ?_
     refine q_l 1 10 En466 (wo342.pk [0, 1]) fun ac467 En468 => ?_
     refine q_s [11,12,13,14] [] 13 En468 (wo342.pk [0, 1]) fun ac469 En470 => ?_
     refine q_l 0 15 En470 (wo342.pk [0, 1]) fun ac471 En472 => ?_
     refine q_s [16] [] 11 En472 (wo342.pk [0, 1]) fun ac473 En474 => ?_
     have En475 := En474.fx (t := 57) (congrArg Value.bool hb341)
     have En476 := En475.fx (t := 58) (congrArg Value.bool hb341)
     refine q_s [17,18,19,20,21,22,23] [] 4 En476 (wo342.pk [0, 1]) fun ac477 En478 => ?_
     refine q_t 24 ?_
     refine m_s 0 [.box br [.slice ta7 (List.length (lsR n x 16777215 l s)) tc8, .bool s1, .bool o] 120, .box bk25 [.slice ra (List.length rl) rc, .bool s1, .bool o1] 120, .vec oa oc 1 (List.flatMap fU16 xs) 37] En478 wo342 fun ac479 wo480 En481 Hv482 => ?_
     refine ⟨q_y, ?_⟩
     refine q_n [25,26] [] 1 En481 fun ac483 En484 => ?_
     refine q_t 27 ?_
     refine m_s 0 [.box br [.slice ta7 (List.length (lsR n x 16777215 l s)) tc8, .bool s1, .bool true] 120, .box bk25 [.slice ra (List.length rl) rc, .bool s1, .bool o1] 120, .vec oa oc 1 (List.flatMap fU16 xs) 37] En484 Hv482 fun ac485 wo486 En487 Hv488 => ?_
     refine ⟨q_y, ?_⟩
     exact h_e ⟨En487.sb, Hv488.pk [0, 1, 2]⟩
    rintro ac489 wo490 ⟨En491, Hv492⟩
    refine then_normal ?_
    refine d_s [0,3,8,10,11] [] En491 fun ac493 En494 => ?_
    refine wp_ret ?_
    refine d_ret1 (t := 8) (v := .slice oa (List.length xs) oc) En494 (by kernel_rfl) (by kernel_rfl) ?_
    have e1 : (lsS n x 16777215 l s || s1) = s1 := by rw [hb93]; rfl
    have e2 : (o || o1) = true := by rw [hb341]; rfl
    have hfin : Ev w [.box br [.slice a (List.length l) c, .bool s, .bool o] 120] wo490 [.box br [.slice ta7 (List.length (lsR n x 16777215 l s)) tc8, .bool (lsS n x 16777215 l s || s1), .bool (o || o1)] 120, .vec oa oc 1 (List.flatMap fU16 xs) 37] := by rw [e1, e2]; exact Hv492.pk [0, 2]
    exact ⟨ta7, tc8, oa, oc, xs, rfl, by rw [hmn]; exact hfin, hs9, by rw [hmn], hct⟩
   ·
    have hb341p : ¬ (o = true) := Bool.eq_false_iff.1 hb341
    refine r_c (fun ac wo => Env ac 69 [(0, pt br), (3, .func (.func 148) #[] #[]), (8, .slice none 0 0), (10, pt bk25), (11, .slice oa (List.length xs) oc)] ∧ Ev w [.box br [.slice a (List.length l) c, .bool s, .bool o] 120] wo [.box br [.slice ta7 (List.length (lsR n x 16777215 l s)) tc8, .bool s1, .bool o1] 120, .box bk25 [.slice ra (List.length rl) rc, .bool s1, .bool o1] 120, .vec oa oc 1 (List.flatMap fU16 xs) 37]) ?_ ?_
    ·
     refine h_s (fun wv => Ev w [.box br [.slice a (List.length l) c, .bool s, .bool o] 120] wv [.box br [.slice ta7 (List.length (lsR n x 16777215 l s)) tc8, .bool (lsS n x 16777215 l s), .bool o] 120, .box bk25 [.slice ra (List.length rl) rc, .bool s1, .bool o1] 120]) [24] 28 ?_
     have wo495 := Hv92.trans (Ev.drew Hv92.heap)
     refine q_s [0,1,2,3,4] [] 23 En91 (wo495.pk [0, 1]) fun ac630 En631 => ?_
     refine q_l 0 5 En631 (wo495.pk [0, 1]) fun ac632 En633 => ?_
     refine q_s [6] [] 21 En633 (wo495.pk [0, 1]) fun ac634 En635 => ?_
     have En636 := En635.fx (t := 47) (congrArg Value.bool hb93)
     have En637 := En636.fx (t := 48) (congrArg Value.bool hb93)
     refine q_s [7,8,9] [] 18 En637 (wo495.pk [0, 1]) fun ac638 En639 => ?_
     refine q_l 1 10 En639 (wo495.pk [0, 1]) fun ac640 En641 => ?_
     refine q_s [11,12,13,14] [] 13 En641 (wo495.pk [0, 1]) fun ac642 En643 => ?_
     refine q_l 0 15 En643 (wo495.pk [0, 1]) fun ac644 En645 => ?_
     refine q_s [16] [] 11 En645 (wo495.pk [0, 1]) fun ac646 En647 => ?_
     have En648 := En647.fx (t := 57) (congrArg Value.bool hb341)
     have En649 := En648.fx (t := 58) (congrArg Value.bool hb341)
     refine q_s [17,18,19] [] 8 En649 (wo495.pk [0, 1]) fun ac650 En651 => ?_
     refine q_l 1 20 En651 (wo495.pk [0, 1]) fun ac652 En653 => ?_
     refine q_s [21,22,23] [] 4 En653 (wo495.pk [0, 1]) fun ac654 En655 => ?_
     refine q_t 24 ?_
     refine m_s 0 [.box br [.slice ta7 (List.length (lsR n x 16777215 l s)) tc8, .bool s1, .bool o] 120, .box bk25 [.slice ra (List.length rl) rc, .bool s1, .bool o1] 120, .vec oa oc 1 (List.flatMap fU16 xs) 37] En655 wo495 fun ac656 wo657 En658 Hv659 => ?_
     refine ⟨q_y, ?_⟩
     refine q_n [25,26] [] 1 En658 fun ac660 En661 => ?_
     refine q_t 27 ?_
     refine m_s 0 [.box br [.slice ta7 (List.length (lsR n x 16777215 l s)) tc8, .bool s1, .bool o1] 120, .box bk25 [.slice ra (List.length rl) rc, .bool s1, .bool o1] 120, .vec oa oc 1 (List.flatMap fU16 xs) 37] En661 Hv659 fun ac662 wo663 En664 Hv665 => ?_
     refine ⟨q_y, ?_⟩
     exact h_e ⟨En664.sb, Hv665.pk [0, 1, 2]⟩
    rintro ac666 wo667 ⟨En668, Hv669⟩
    refine then_normal ?_
    refine d_s [0,3,8,10,11] [] En668 fun ac670 En671 => ?_
    refine wp_ret ?_
    refine d_ret1 (t := 8) (v := .slice oa (List.length xs) oc) En671 (by kernel_rfl) (by kernel_rfl) ?_
    have e1 : (lsS n x 16777215 l s || s1) = s1 := by rw [hb93]; rfl
    have e2 : (o || o1) = o1 := by rw [hb341]; rfl
    have hfin : Ev w [.box br [.slice a (List.length l) c, .bool s, .bool o] 120] wo667 [.box br [.slice ta7 (List.length (lsR n x 16777215 l s)) tc8, .bool (lsS n x 16777215 l s || s1), .bool (o || o1)] 120, .vec oa oc 1 (List.flatMap fU16 xs) 37] := by rw [e1, e2]; exact Hv669.pk [0, 2]
    exact ⟨ta7, tc8, oa, oc, xs, rfl, by rw [hmn]; exact hfin, hs9, by rw [hmn], hct⟩

end Go.Proofs.Ytofecellbfhnjaa
