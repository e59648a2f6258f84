/- Layer 17: readers. -/
import Derived.Test.YtofecellbfhnjaaGrp
import Derived.Test.YtofecellbfhnjaaI64
import Derived.Test.YtofecellbfhnjaaStab
namespace Go.Proofs.Ytofecellbfhnjaa
open Go.Dbr
set_option maxRecDepth 100000
set_option maxHeartbeats 2000000
set_option linter.unusedVariables false
set_option linter.unusedSimpArgs false

abbrev pt (b : Nat) : Value := .pointer (some (Addr.mk b 0 none))
abbrev ni (n : Nat) : Value := .int .i64 (n : Int)
abbrev Bs := List UInt8
/-- so many bytes are taken from the front; short: there are fewer -/
def tkS (n : Nat) (l : Bs) (s : Bool) : Bool := s || decide (l.length < n)
def tkO (n : Nat) (l : Bs) (s : Bool) : Bs := bif tkS n l s then [] else List.take n l
def tkR (n : Nat) (l : Bs) (s : Bool) : Bs := bif tkS n l s then [] else List.drop n l
/-- the document's: what is left stays -/
def dkR (n : Nat) (l : Bs) (s : Bool) : Bs := bif tkS n l s then l else List.drop n l
theorem tk_s {n : Nat} {l : Bs} {s : Bool} (h : s = true) : tkS n l s = true := by rw [tkS, h]; rfl
theorem tk_n {n : Nat} {l : Bs} {s : Bool} (h : l.length < n) : tkS n l s = true := by rw [tkS, decide_eq_true h, Bool.or_true]
theorem tk_y {n : Nat} {l : Bs} {s : Bool} (h1 : ¬ s = true) (h : ¬ l.length < n) : tkS n l s = false := by rw [tkS, decide_eq_false h, Bool.eq_false_iff.2 h1]; rfl
theorem tkO_len (n : Nat) (l : Bs) (s : Bool) : (tkO n l s).length ≤ n := by
  unfold tkO
  cases tkS n l s with
  | true => exact Nat.zero_le _
  | false => rw [Bool.cond_false, List.length_take]; omega
theorem tkR_len (n : Nat) (l : Bs) (s : Bool) : (tkR n l s).length ≤ l.length := by
  unfold tkR
  cases tkS n l s with
  | true => exact Nat.zero_le _
  | false => rw [Bool.cond_false, List.length_drop]; omega
theorem dkR_len (n : Nat) (l : Bs) (s : Bool) : (dkR n l s).length ≤ l.length := by
  unfold dkR
  cases tkS n l s with
  | true => exact Nat.le_refl _
  | false => rw [Bool.cond_false, List.length_drop]; omega
/-- the number of bytes, the highest first -/
def beV (l : Bs) : Nat := l.foldl (fun v b => v * 256 + b.toNat) 0
theorem beV_snoc (l : Bs) (b : UInt8) : beV (l ++ [b]) = beV l * 256 + b.toNat := by rw [beV, List.foldl_append]; rfl
theorem beV_take {l : Bs} {j : Nat} (h : j < l.length) : beV (List.take (j + 1) l) = beV (List.take j l) * 256 + (List.getD l j 0).toNat := by
  rw [List.take_add_one, List.getElem?_eq_getElem h, Option.toList_some, beV_snoc, List.getD_eq_getElem?_getD, List.getElem?_eq_getElem h]
  rfl
theorem beV_lt : ∀ (k : Nat) (l : Bs), l.length = k → beV l < 256 ^ k
  | 0, l, h => by rw [List.length_eq_zero_iff.1 h]; decide
  | k + 1, l, h => by
    have e : l = List.take k l ++ [List.getD l k 0] := by
      rw [List.getD_eq_getElem?_getD, List.getElem?_eq_getElem (by omega)]
      show l = List.take k l ++ [l[k]]
      rw [List.take_append_getElem, List.take_of_length_le (by omega)]
    have ih := beV_lt k (List.take k l) (by rw [List.length_take]; omega)
    rw [e, beV_snoc, Nat.pow_succ]
    have := (List.getD l k 0).toNat_lt
    omega
theorem beV_4 {l : Bs} (h : l.length ≤ 4) : beV l < 4294967296 := Nat.lt_of_lt_of_le (beV_lt _ l rfl) (Nat.pow_le_pow_right (by decide) h : 256 ^ l.length ≤ 256 ^ 4)
def nbV (n : Nat) (l : Bs) (s : Bool) : Nat := beV (tkO n l s)
theorem nbV_4 {n : Nat} (h : n ≤ 4) (l : Bs) (s : Bool) : nbV n l s < 4294967296 := beV_4 (Nat.le_trans (tkO_len n l s) h)
theorem u8_lt (b : UInt8) : b.toNat < 256 := b.toNat_lt

theorem take_go (w : World) (br : Nat) (n : Nat) (hn : n ≤ 9223372036854775807) (a : Option Addr) (c : Nat) (l : List UInt8) (s o : Bool) (i : InB w [.box br [.slice a (List.length l) c, .bool s, .bool o] 120] a c l) (hH : Heap w [.box br [.slice a (List.length l) c, .bool s, .bool o] 120]) : Calls Try.prog 104 #[pt br, ni n] w fun e w' => ∃ ra rc ta tc, e = .returned (.slice ra (List.length (tkO n l s)) rc) ∧ Ev w [.box br [.slice a (List.length l) c, .bool s, .bool o] 120] w' [.box br [.slice ta (List.length (tkR n l s)) tc, .bool (tkS n l s), .bool o] 120] ∧ Sub a c l ra rc (tkO n l s) ∧ Sub a c l ta tc (tkR n l s) := by
 refine d_0 [(0, pt br), (1, ni n)] 42 Go.Proofs.Try.func104 Go.Proofs.Try.ntmps104 (hH) fun act0 En0 Hv0 => ?_
 refine d_s [0,1,4] [] En0 fun ac1 En2 => ?_
 refine wp_seq ?_
 refine wp_seq ?_
 refine region_from ?_
 refine d_k [0,1,4,8] [] 3 En2 fun ac3 En4 => ?_
 refine f_o ?_
 refine m_l 0 En4 Hv0 fun ac5 En6 => ?_
 refine d_k [0,1,4,10] [] 5 En6 fun ac7 En8 => ?_
 rcases Bool.eq_false_or_eq_true (s) with hb9 | hb9
 ·
  have En10 := En8.fx (t := 10) (congrArg Value.bool hb9)
  have hp11 : s = true := hb9
  refine d_e [0,1,4,18] [] En10 fun ac12 En13 => ?_
  refine then_normal ?_
  refine c_t En13 ?_
  refine wp_seq ?_
  refine region_from ?_
  refine d_k [0,1,4,20,22] [] 4 En13 fun ac14 En15 => ?_
  refine f_o ?_
  refine m_s 0 [.box br [.slice a (List.length l) c, .bool true, .bool o] 120] En15 Hv0 fun ac16 wo17 En18 Hv19 => ?_
  refine d_k [0,1,4,24] [] 7 En18 fun ac20 En21 => ?_
  refine f_o ?_
  refine m_s 0 [.box br [.slice none 0 0, .bool true, .bool o] 120] En21 Hv19 fun ac22 wo23 En24 Hv25 => ?_
  refine f_e ?_
  refine then_normal ?_
  refine d_s [0,1,4] [] En24 fun ac26 En27 => ?_
  refine wp_ret ?_
  refine then_ret ?_
  refine d_ret1 (t := 4) (v := .slice none 0 0) En27 (by kernel_rfl) (by kernel_rfl) ?_
  have eS : tkS n l s = true := by first | exact tk_s (by assumption) | exact tk_n (by omega)
  rw [tkO, tkR, eS]
  exact ⟨none, 0, none, 0, rfl, Hv25.pk [0], Sub.nil, Sub.nil⟩
 ·
  have En28 := En8.fx (t := 10) (congrArg Value.bool hb9)
  have hp29 : ¬ (s = true) := Bool.eq_false_iff.1 hb9
  refine d_k [0,1,4,10,11,14] [] 9 En28 fun ac30 En31 => ?_
  refine f_o ?_
  refine m_l 0 En31 Hv0 fun ac32 En33 => ?_
  refine d_e [0,1,4,18] [] En33 fun ac34 En35 => ?_
  refine then_normal ?_
  refine c_d (((n : Nat) : Int) > ((List.length l : Nat) : Int)) En35 (fun hc36 => ?_) (fun hc36 => ?_)
  ·
   refine wp_seq ?_
   refine region_from ?_
   refine d_k [0,1,4,20,22] [] 4 En35 fun ac37 En38 => ?_
   refine f_o ?_
   refine m_s 0 [.box br [.slice a (List.length l) c, .bool true, .bool o] 120] En38 Hv0 fun ac39 wo40 En41 Hv42 => ?_
   refine d_k [0,1,4,24] [] 7 En41 fun ac43 En44 => ?_
   refine f_o ?_
   refine m_s 0 [.box br [.slice none 0 0, .bool true, .bool o] 120] En44 Hv42 fun ac45 wo46 En47 Hv48 => ?_
   refine f_e ?_
   refine then_normal ?_
   refine d_s [0,1,4] [] En47 fun ac49 En50 => ?_
   refine wp_ret ?_
   refine then_ret ?_
   refine d_ret1 (t := 4) (v := .slice none 0 0) En50 (by kernel_rfl) (by kernel_rfl) ?_
   have eS : tkS n l s = true := by first | exact tk_s (by assumption) | exact tk_n (by omega)
   rw [tkO, tkR, eS]
   exact ⟨none, 0, none, 0, rfl, Hv48.pk [0], Sub.nil, Sub.nil⟩
  ·
   refine wp_skip ?_
   refine then_normal ?_
   refine wp_seq ?_
   refine region_from ?_
   refine d_k [0,1,4,27] [] 3 En35 fun ac51 En52 => ?_
   refine f_o ?_
   refine m_l 0 En52 Hv0 fun ac53 En54 => ?_
   refine d_k [0,1,4,28,29,30] [] 6 En54 fun ac55 En56 => ?_
   refine f_o ?_
   have hcap57 := i.cap
   refine op_val (d := some 31) (x := Instr.sliceAt 23 (.slice a (List.length l) c) none (some (ni n)) (some (ni n))) (v := .slice a n n) En56 (by kernel_rfl) (run_slicemx (e := 5) (sz := 1) (by kernel_rfl) (by kernel_rfl) a (List.length l) c n (by omega) .i64 .i64 _) ?_
   intro ac58 En59
   refine d_e [0,1,4,5] [] En59 fun ac60 En61 => ?_
   refine then_normal ?_
   refine wp_seq ?_
   refine region_from ?_
   refine d_k [0,1,4,5,32,35] [] 4 En61 fun ac62 En63 => ?_
   refine f_o ?_
   refine m_l 0 En63 Hv0 fun ac64 En65 => ?_
   refine d_k [0,1,4,5,32,36,37] [] 6 En65 fun ac66 En67 => ?_
   refine f_o ?_
   have hcap68 := i.cap
   refine op_slice (d := some 38) (t := 23) (e := 5) (sz := 1) (len := List.length l) (cap := c) (lo := n) (hi := List.length l) (ao := a) (lov := (some (ni n))) (hiv := none) En67 (by kernel_rfl) (by kernel_rfl) (by kernel_rfl) (by omega) (by omega) (.inr ⟨.i64, rfl⟩) (.inl ⟨rfl, rfl⟩) ?_
   intro ac69 En70
   refine d_k [0,1,4,5,38,40] [] 9 En70 fun ac71 En72 => ?_
   refine f_o ?_
   refine m_s 0 [.box br [.slice (cutAt a c n 1) ((List.length l) - n) (c - n), .bool s, .bool o] 120] En72 Hv0 fun ac73 wo74 En75 Hv76 => ?_
   refine f_e ?_
   refine then_normal ?_
   refine d_s [0,1,4] [] En75 fun ac77 En78 => ?_
   refine wp_ret ?_
   refine d_ret1 (t := 4) (v := .slice a n n) En78 (by kernel_rfl) (by kernel_rfl) ?_
   have eS : tkS n l s = false := tk_y (by assumption) (by omega)
   rw [tkO, tkR, eS, Bool.cond_false, Bool.cond_false]
   have hz := eS
   rw [show List.length l - n = List.length (List.drop n l) from List.length_drop.symm] at Hv76
   have es : s = false := Bool.eq_false_iff.2 (by assumption)
   subst es
   exact ⟨a, n, cutAt a c n 1, c - n, by rw [List.length_take, Nat.min_eq_left (by omega)], Hv76.pk [0], sub_mx n (by omega), sub_drop n (by omega)⟩

theorem number_go (w : World) (br : Nat) (n : Nat) (hn : n ≤ 4) (a : Option Addr) (c : Nat) (l : List UInt8) (s o : Bool) (i : InB w [.box br [.slice a (List.length l) c, .bool s, .bool o] 120] a c l) (hH : Heap w [.box br [.slice a (List.length l) c, .bool s, .bool o] 120]) : Calls Try.prog 102 #[pt br, ni n] w fun e w' => ∃ ta tc, e = .returned (.int .i64 ((nbV n l s : Nat) : Int)) ∧ Ev w [.box br [.slice a (List.length l) c, .bool s, .bool o] 120] w' [.box br [.slice ta (List.length (tkR n l s)) tc, .bool (tkS n l s), .bool o] 120] ∧ Sub a c l ta tc (tkR n l s) := by
 refine d_0 [(0, pt br), (1, ni n)] 23 Go.Proofs.Try.func102 Go.Proofs.Try.ntmps102 (hH) fun act0 En0 Hv0 => ?_
 refine d_s [0,1,4] [] En0 fun ac1 En2 => ?_
 refine d_s [0,1,4,5] [] En2 fun ac3 En4 => ?_
 refine wp_seq ?_
 refine wp_seq ?_
 refine region_from ?_
 refine d_k [4,5,8,9] [] 2 En4 fun ac5 En6 => ?_
 refine f_o ?_
 refine c_l [0] (M := [.box br [.slice a (List.length l) c, .bool s, .bool o] 120]) En6 Hv0 (fun hM13 => take_go _ br n (by omega) a c l s o ((i.ev Hv0).pick [0] (by kernel_rfl)) hM13) ?_
 rintro _ wo14 ⟨ra7, rc8, ta9, tc10, rfl, he15, hs11, hs12⟩
 refine ⟨_, _, [.box br [.slice ta9 (List.length (tkR n l s)) tc10, .bool (tkS n l s), .bool o] 120], rfl, he15, by kernel_rfl, fun ac17 En18 Hv19 => ?_⟩
 refine d_e [4,5,10,11,12] [] En18 fun ac20 En21 => ?_
 have hO := tkO_len n l s
 refine then_normal ?_
 refine wp_block ?_
 refine loop_m (fun ms22 ac wo => ∃ (j : Nat) (v : Nat), ms22 = (List.length (tkO n l s) - j : Nat) ∧ Env ac 23 [(4, .int .i64 0), (5, ni v), (10, .slice ra7 (List.length (tkO n l s)) rc8), (11, .int .i64 ((List.length (tkO n l s) : Nat) : Int)), (12, ni j)] ∧ Ev w [.box br [.slice a (List.length l) c, .bool s, .bool o] 120] wo [.box br [.slice ta9 (List.length (tkR n l s)) tc10, .bool (tkS n l s), .bool o] 120] ∧ (j ≤ List.length (tkO n l s)) ∧ (v = beV (List.take j (tkO n l s))) ∧ (v < 4294967296)) ⟨_, 0, 0, rfl, En21.sb, Hv19.pk [0], (by omega), rfl, (by omega)⟩ ?_
 rintro mm28 ac24 wo25 ⟨j, v, rfl, En26, Hv27, hj, hv, hb⟩
 refine d_s [4,5,10,11,12,13] [] En26 fun ac29 En30 => ?_
 refine wp_seq ?_
 refine c_d (((j : Nat) : Int) < ((List.length (tkO n l s) : Nat) : Int)) En30 (fun hc31 => ?_) (fun hc31 => ?_)
 ·
  refine wp_skip ?_
  refine then_normal ?_
  refine wp_seq ?_
  refine wp_block ?_
  have hb34 : j < List.length (tkO n l s) := (by omega)
  obtain ⟨adr32, had33⟩ := some_of ((hs11 _ [] ((i.ev Hv27).pick [] (by kernel_rfl)))).nz hb34
  refine wp_seq ?_
  refine region_from ?_
  refine f_o ?_
  refine q_v (x := Instr.indexAt 23 (.slice ra7 (List.length (tkO n l s)) rc8) (ni j)) (v := .pointer (some (Addr.add adr32 j))) En30 (Go.Dbr.run_indexsl (e := 5) (sz := 1) (j := j) (jo := j) had33 (by kernel_rfl) (by kernel_rfl) (by omega) hb34 (Nat.mul_one _) _) fun ac35 En36 => ?_
  refine f_o ?_
  have hb37 : j < List.length (tkO n l s) := by omega
  refine op_loadel (d := some 15) (t := 5) (ad := adr32) (ao := ra7) (xs := bys (tkO n l s)) (j := j) (v := .int .u8 ((UInt8.toNat (List.getD (tkO n l s) j 0) : Nat) : Int)) En36 (by kernel_rfl) ((hs11 _ [] ((i.ev Hv27).pick [] (by kernel_rfl)))).reads had33 (bys_getD hb37) (by kernel_rfl) ?_
  intro ac38 En39
  refine d_e [4,5,7,10,11,12] [] En39 fun ac40 En41 => ?_
  have hub := u8_lt (List.getD (tkO n l s) j 0)
  refine then_normal ?_
  refine d_r [4,5,10,11,12] [(1, g_n (w_r (e := ((v : Nat) : Int) * 2 ^ 8) (x := ((v * 256 : Nat) : Int)) (by omega))), (3, g_i .i64 (Go.Dbr.u8_to_i64 (x := List.getD (tkO n l s) j 0) rfl)), (4, g_i .i64 (Go.Dbr.i64_or_low (x := v) (y := UInt8.toNat (List.getD (tkO n l s) j 0)) 8 (by omega) (by omega)))] En41 fun ac42 En43 => ?_
  refine block_normal ?_
  refine then_normal ?_
  refine d_r [4,5,10,11,12] [(0, g_n (w_a j 1))] En43 fun ac44 En45 => ?_
  refine then_normal ?_
  refine ⟨_, ⟨j + 1, v * 256 + (UInt8.toNat (List.getD (tkO n l s) j 0)), rfl, En45.sb, Hv27.pk [0], (by omega), (by rw [hv]; exact (beV_take (by omega)).symm), (by have h4 := beV_4 (l := List.take (j + 1) (tkO n l s)) (by rw [List.length_take]; omega); rw [beV_take (by omega), ← hv] at h4; exact h4)⟩, ?_⟩
  omega
 ·
  refine wp_exit ?_
  refine then_exit ?_
  refine then_exit ?_
  refine block_exit ?_
  refine then_normal ?_
  refine d_s [4,5,10,11,12] [] En30 fun ac46 En47 => ?_
  refine wp_ret ?_
  refine d_ret1 (t := 4) (v := ni v) En47 (by kernel_rfl) (by kernel_rfl) ?_
  have hje : List.take j (tkO n l s) = tkO n l s := List.take_of_length_le (by omega)
  rw [hje] at hv
  exact ⟨ta9, tc10, by rw [hv]; rfl, Hv27.pk [0], hs12⟩

theorem clone_go (w : World) (a : Option Addr) (c : Nat) (l : List UInt8) (i : InB w [] a c l) : Calls Try.prog 103 #[.slice a (List.length l) c] w fun e w' => ∃ ao cap, e = .returned (.slice ao (List.length l) cap) ∧ Ev w [] w' [.vec ao cap 1 (bys l) 5] := by
 refine d_0 [(0, .slice a (List.length l) c)] 8 Go.Proofs.Try.func103 Go.Proofs.Try.ntmps103 (Heap.nil _) fun act0 En0 Hv0 => ?_
 refine d_s [0,2] [] En0 fun ac1 En2 => ?_
 refine wp_seq ?_
 refine wp_seq ?_
 refine region_from ?_
 refine d_k [0,2,3] [] 1 En2 fun ac3 En4 => ?_
 refine f_o ?_
 refine q_v (x := binOp .eql 23 (.slice a (List.length l) c) (.slice none 0 0)) (v := .bool (Option.isNone a)) En4 (Go.Dbr.run_slicenil (e := 5) (by kernel_rfl) a (List.length l) c _) fun ac5 En6 => ?_
 refine f_e ?_
 refine then_normal ?_
 refine cond_at En6 (t := Option.isNone a) (by kernel_rfl) (fun hc7 => ?_) (fun hc7 => ?_)
 ·
  replace hc7 : Option.isNone a = true := hc7
  refine d_s [0,2] [] En6 fun ac8 En9 => ?_
  refine wp_ret ?_
  refine then_ret ?_
  refine d_ret1 (t := 2) (v := .slice none 0 0) En9 (by kernel_rfl) (by kernel_rfl) ?_
  have hl0 : l = [] := List.length_eq_zero_iff.1 (i.nz (Option.isNone_iff_eq_none.1 hc7))
  subst hl0
  exact ⟨none, 0, rfl, (Ev.nil (sz := 1) (T := 5) Hv0).pk [0]⟩
 ·
  replace hc7 : ¬ (Option.isNone a = true) := Bool.eq_false_iff.1 hc7
  refine wp_skip ?_
  refine then_normal ?_
  refine wp_seq ?_
  refine region_from ?_
  refine f_o ?_
  refine op_lit (d := some 5) (t := 23) (T := 5) (m := 0) (parts := #[]) (xs := bys []) (sz := 1) En6 (by kernel_rfl) (by kernel_rfl) rfl (by decide) Hv0 ?_
  intro ac11 wo12 bk10 En13 Hv14
  refine d_k [0,2,5,6] [] 2 En13 fun ac15 En16 => ?_
  refine f_o ?_
  have hsm17 := i.small
  refine op_append (d := some 7) (t := 23) (tx := 23) (ty := 23) (k := 0) (p := 0) (m := List.length l) (x := .slice a (List.length l) c) (bytes := 1) En16 (by kernel_rfl) Hv14 rfl rfl (Reads.src (size := 1) (tx := 23) (e' := 5) (by kernel_rfl) (i.ev Hv14).reads (bys_len _) i.nz (bys_one _)) (by kernel_rfl) (z := .int .u8 0) (by kernel_rfl) rfl (by decide) (by have := i.small; omega) (by unfold maxLen; omega) ?_
  intro ac22 wo23 ao18 cp19 En24 Hv25 hnz _
  clear hnz
  rw [bys_nil_append] at Hv25
  have ehz20 : 0 + (List.length l) = List.length l := (by first | (simp; done) | (simp; omega) | omega)
  rw [ehz20] at En24
  refine d_e [0,2] [] En24 fun ac26 En27 => ?_
  refine then_normal ?_
  refine wp_ret ?_
  refine d_ret1 (t := 2) (v := .slice ao18 (List.length l) cp19) En27 (by kernel_rfl) (by kernel_rfl) ?_
  exact ⟨ao18, cp19, rfl, Hv25.pk [0]⟩

def lsT (n x y : Nat) (l : Bs) (s : Bool) : Bool := tkS n l s || (decide (nbV n l s < x) || decide (y < nbV n l s))
def lsO (n x y : Nat) (l : Bs) (s : Bool) : Bs := tkO (nbV n l s) (tkR n l s) (lsT n x y l s)
def lsR (n x y : Nat) (l : Bs) (s : Bool) : Bs := tkR (nbV n l s) (tkR n l s) (lsT n x y l s)
def lsS (n x y : Nat) (l : Bs) (s : Bool) : Bool := tkS (nbV n l s) (tkR n l s) (lsT n x y l s)
/-- the document's -/
def ldR (n x y : Nat) (l : Bs) (s : Bool) : Bs := dkR (nbV n l s) (dkR n l s) (lsT n x y l s)
def ldO (n x y : Nat) (l : Bs) (s : Bool) : Bs := tkO (nbV n l s) (dkR n l s) (lsT n x y l s)
def ldS (n x y : Nat) (l : Bs) (s : Bool) : Bool := tkS (nbV n l s) (dkR n l s) (lsT n x y l s)
theorem lsT_1 {n x y : Nat} {l : Bs} {s : Bool} (h : nbV n l s < x) : lsT n x y l s = true := by rw [lsT, decide_eq_true h, Bool.true_or, Bool.or_true]
theorem lsT_2 {n x y : Nat} {l : Bs} {s : Bool} (h : y < nbV n l s) : lsT n x y l s = true := by rw [lsT, decide_eq_true h, Bool.or_true, Bool.or_true]
theorem lsT_0 {n x y : Nat} {l : Bs} {s : Bool} (h1 : ¬ nbV n l s < x) (h2 : ¬ y < nbV n l s) : lsT n x y l s = tkS n l s := by rw [lsT, decide_eq_false h1, decide_eq_false h2, Bool.or_false, Bool.or_false]
theorem lsO_len (n x y : Nat) (l : Bs) (s : Bool) : (lsO n x y l s).length ≤ l.length := by
  have h : ∀ (k : Nat) (m : Bs) (t : Bool), (tkO k m t).length ≤ m.length := fun k m t => by
    unfold tkO
    cases tkS k m t with
    | true => exact Nat.zero_le _
    | false => rw [Bool.cond_false, List.length_take]; omega
  exact Nat.le_trans (h _ _ _) (tkR_len _ _ _)
theorem lsR_len (n x y : Nat) (l : Bs) (s : Bool) : (lsR n x y l s).length ≤ l.length := Nat.le_trans (tkR_len _ _ _) (tkR_len _ _ _)

theorem list_go (w : World) (br : Nat) (n : Nat) (hn : n ≤ 4) (x y : Nat) (hx : x ≤ 4294967295) (hy : y ≤ 4294967295) (a : Option Addr) (c : Nat) (l : List UInt8) (s o : Bool) (i : InB w [.box br [.slice a (List.length l) c, .bool s, .bool o] 120] a c l) (hH : Heap w [.box br [.slice a (List.length l) c, .bool s, .bool o] 120]) : Calls Try.prog 137 #[pt br, ni n, ni x, ni y] w fun e w' => ∃ ao cap ta tc, e = .returned (.slice ao (List.length (lsO n x y l s)) cap) ∧ Ev w [.box br [.slice a (List.length l) c, .bool s, .bool o] 120] w' [.box br [.slice ta (List.length (lsR n x y l s)) tc, .bool (lsS n x y l s), .bool o] 120, .vec ao cap 1 (bys (lsO n x y l s)) 5] ∧ Sub a c l ta tc (lsR n x y l s) := by
 refine d_0 [(0, pt br), (1, ni n), (2, ni x), (3, ni y)] 28 Go.Proofs.Try.func137 Go.Proofs.Try.ntmps137 (hH) fun act0 En0 Hv0 => ?_
 refine d_s [0,1,2,3,8] [] En0 fun ac1 En2 => ?_
 refine wp_seq ?_
 refine region_from ?_
 refine d_k [0,2,3,8,10,11] [] 2 En2 fun ac3 En4 => ?_
 refine f_o ?_
 refine c_l [0] (M := [.box br [.slice a (List.length l) c, .bool s, .bool o] 120]) En4 Hv0 (fun hM8 => number_go _ br n (by omega) a c l s o ((i.ev Hv0).pick [0] (by kernel_rfl)) hM8) ?_
 rintro _ wo9 ⟨ta5, tc6, rfl, he10, hs7⟩
 refine ⟨_, _, [.box br [.slice ta5 (List.length (tkR n l s)) tc6, .bool (tkS n l s), .bool o] 120], rfl, he10, by kernel_rfl, fun ac12 En13 Hv14 => ?_⟩
 refine d_e [0,2,3,8,9] [] En13 fun ac15 En16 => ?_
 have hk4 := nbV_4 hn l s
 refine then_normal ?_
 refine wp_seq ?_
 refine wp_seq ?_
 refine region_from ?_
 refine d_k [0,3,8,9,16] [] 4 En16 fun ac17 En18 => ?_
 rcases Bool.eq_false_or_eq_true (decide (((nbV n l s : Nat) : Int) < ((x : Nat) : Int))) with hb19 | hb19
 ·
  have En20 := En18.fx (t := 16) (congrArg Value.bool hb19)
  have hp21 : ((nbV n l s : Nat) : Int) < ((x : Nat) : Int) := of_decide_eq_true hb19
  refine d_e [0,8,9,20] [] En20 fun ac22 En23 => ?_
  refine then_normal ?_
  refine c_t En23 ?_
  refine region_from ?_
  refine d_k [0,8,9,23] [] 3 En23 fun ac24 En25 => ?_
  refine f_o ?_
  refine m_s 0 [.box br [.slice ta5 (List.length (tkR n l s)) tc6, .bool true, .bool o] 120] En25 Hv14 fun ac26 wo27 En28 Hv29 => ?_
  refine f_e ?_
  refine then_normal ?_
  refine wp_seq ?_
  refine region_from ?_
  refine d_k [0,8,9,24,25] [] 2 En28 fun ac30 En31 => ?_
  refine f_o ?_
  refine c_l [0] (M := [.box br [.slice ta5 (List.length (tkR n l s)) tc6, .bool true, .bool o] 120]) En31 Hv29 (fun hM38 => take_go _ br (nbV n l s) (by omega) ta5 tc6 (tkR n l s) true o (hs7 _ _ ((i.ev Hv29).pick [0] (by kernel_rfl))) hM38) ?_
  rintro _ wo39 ⟨ra32, rc33, ta34, tc35, rfl, he40, hs36, hs37⟩
  refine ⟨_, _, [.box br [.slice ta34 (List.length (tkR (nbV n l s) (tkR n l s) true)) tc35, .bool (tkS (nbV n l s) (tkR n l s) true), .bool o] 120], rfl, he40, by kernel_rfl, fun ac42 En43 Hv44 => ?_⟩
  refine f_o ?_
  refine c_0 En43 Hv44 (clone_go _ ra32 rc33 (tkO (nbV n l s) (tkR n l s) true) (hs36 _ [] (hs7 _ [] ((i.ev Hv44).pick [] (by kernel_rfl))))) ?_
  rintro _ wo48 ⟨ao45, cp46, rfl, he49⟩
  refine ⟨_, _, _, rfl, he49, rfl, fun ac51 En52 Hv53 => ?_⟩
  refine d_e [0,8,9] [] En52 fun ac54 En55 => ?_
  refine then_normal ?_
  refine wp_ret ?_
  refine d_ret1 (t := 8) (v := .slice ao45 (List.length (tkO (nbV n l s) (tkR n l s) true)) cp46) En55 (by kernel_rfl) (by kernel_rfl) ?_
  have eT : lsT n x y l s = true := by first | exact lsT_1 (by omega) | exact lsT_2 (by omega) | exact lsT_0 (by omega) (by omega)
  simp only [lsO, lsR, lsS, eT]
  exact ⟨ao45, cp46, ta34, tc35, rfl, Hv53.pk [1, 0], (hs7.trans hs37)⟩
 ·
  have En56 := En18.fx (t := 16) (congrArg Value.bool hb19)
  have hp57 : ¬ (((nbV n l s : Nat) : Int) < ((x : Nat) : Int)) := of_decide_eq_false hb19
  refine d_e [0,8,9,20] [] En56 fun ac58 En59 => ?_
  refine then_normal ?_
  refine c_d (((nbV n l s : Nat) : Int) > ((y : Nat) : Int)) En59 (fun hc60 => ?_) (fun hc60 => ?_)
  ·
   refine region_from ?_
   refine d_k [0,8,9,23] [] 3 En59 fun ac61 En62 => ?_
   refine f_o ?_
   refine m_s 0 [.box br [.slice ta5 (List.length (tkR n l s)) tc6, .bool true, .bool o] 120] En62 Hv14 fun ac63 wo64 En65 Hv66 => ?_
   refine f_e ?_
   refine then_normal ?_
   refine wp_seq ?_
   refine region_from ?_
   refine d_k [0,8,9,24,25] [] 2 En65 fun ac67 En68 => ?_
   refine f_o ?_
   refine c_l [0] (M := [.box br [.slice ta5 (List.length (tkR n l s)) tc6, .bool true, .bool o] 120]) En68 Hv66 (fun hM75 => take_go _ br (nbV n l s) (by omega) ta5 tc6 (tkR n l s) true o (hs7 _ _ ((i.ev Hv66).pick [0] (by kernel_rfl))) hM75) ?_
   rintro _ wo76 ⟨ra69, rc70, ta71, tc72, rfl, he77, hs73, hs74⟩
   refine ⟨_, _, [.box br [.slice ta71 (List.length (tkR (nbV n l s) (tkR n l s) true)) tc72, .bool (tkS (nbV n l s) (tkR n l s) true), .bool o] 120], rfl, he77, by kernel_rfl, fun ac79 En80 Hv81 => ?_⟩
   refine f_o ?_
   refine c_0 En80 Hv81 (clone_go _ ra69 rc70 (tkO (nbV n l s) (tkR n l s) true) (hs73 _ [] (hs7 _ [] ((i.ev Hv81).pick [] (by kernel_rfl))))) ?_
   rintro _ wo85 ⟨ao82, cp83, rfl, he86⟩
   refine ⟨_, _, _, rfl, he86, rfl, fun ac88 En89 Hv90 => ?_⟩
   refine d_e [0,8,9] [] En89 fun ac91 En92 => ?_
   refine then_normal ?_
   refine wp_ret ?_
   refine d_ret1 (t := 8) (v := .slice ao82 (List.length (tkO (nbV n l s) (tkR n l s) true)) cp83) En92 (by kernel_rfl) (by kernel_rfl) ?_
   have eT : lsT n x y l s = true := by first | exact lsT_1 (by omega) | exact lsT_2 (by omega) | exact lsT_0 (by omega) (by omega)
   simp only [lsO, lsR, lsS, eT]
   exact ⟨ao82, cp83, ta71, tc72, rfl, Hv90.pk [1, 0], (hs7.trans hs74)⟩
  ·
   refine wp_skip ?_
   refine then_normal ?_
   refine wp_seq ?_
   refine region_from ?_
   refine d_k [0,8,9,24,25] [] 2 En59 fun ac93 En94 => ?_
   refine f_o ?_
   refine c_l [0] (M := [.box br [.slice ta5 (List.length (tkR n l s)) tc6, .bool (tkS n l s), .bool o] 120]) En94 Hv14 (fun hM101 => take_go _ br (nbV n l s) (by omega) ta5 tc6 (tkR n l s) (tkS n l s) o (hs7 _ _ ((i.ev Hv14).pick [0] (by kernel_rfl))) hM101) ?_
   rintro _ wo102 ⟨ra95, rc96, ta97, tc98, rfl, he103, hs99, hs100⟩
   refine ⟨_, _, [.box br [.slice ta97 (List.length (tkR (nbV n l s) (tkR n l s) (tkS n l s))) tc98, .bool (tkS (nbV n l s) (tkR n l s) (tkS n l s)), .bool o] 120], rfl, he103, by kernel_rfl, fun ac105 En106 Hv107 => ?_⟩
   refine f_o ?_
   refine c_0 En106 Hv107 (clone_go _ ra95 rc96 (tkO (nbV n l s) (tkR n l s) (tkS n l s)) (hs99 _ [] (hs7 _ [] ((i.ev Hv107).pick [] (by kernel_rfl))))) ?_
   rintro _ wo111 ⟨ao108, cp109, rfl, he112⟩
   refine ⟨_, _, _, rfl, he112, rfl, fun ac114 En115 Hv116 => ?_⟩
   refine d_e [0,8,9] [] En115 fun ac117 En118 => ?_
   refine then_normal ?_
   refine wp_ret ?_
   refine d_ret1 (t := 8) (v := .slice ao108 (List.length (tkO (nbV n l s) (tkR n l s) (tkS n l s))) cp109) En118 (by kernel_rfl) (by kernel_rfl) ?_
   have eT : lsT n x y l s = tkS n l s := by first | exact lsT_1 (by omega) | exact lsT_2 (by omega) | exact lsT_0 (by omega) (by omega)
   simp only [lsO, lsR, lsS, eT]
   exact ⟨ao108, cp109, ta97, tc98, rfl, Hv116.pk [1, 0], (hs7.trans hs100)⟩

end Go.Proofs.Ytofecellbfhnjaa
