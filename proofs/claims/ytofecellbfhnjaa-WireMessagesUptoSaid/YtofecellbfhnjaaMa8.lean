import Derived.Test.YtofecellbfhnjaaMa7
/- Layer 17: requests, signatures, tickets are read, by both. -/

namespace Go.Proofs.Ytofecellbfhnjaa
open Go.Dbr
set_option maxRecDepth 100000
set_option maxHeartbeats 2000000
set_option linter.unusedVariables false
set_option linter.unusedSimpArgs false

def reqM (l : Bs) (s o : Bool) : (Bs × List EX) × PS := ((lsO 1 0 255 l s, (extsM (lsR 1 0 255 l s) (lsS 1 0 255 l s) o).1), (extsM (lsR 1 0 255 l s) (lsS 1 0 255 l s) o).2)
def dreqM (l : Bs) (s o : Bool) : (Bs × List EX) × PS := ((ldO 1 0 255 l s, (dextsM (ldR 1 0 255 l s) (ldS 1 0 255 l s) o).1), (dextsM (ldR 1 0 255 l s) (ldS 1 0 255 l s) o).2)
/-- a ticket: what stands ahead of its extensions -/
def tq1 (l : Bs) (s : Bool) : Bs × Bool := (tkR 4 (tkR 4 l s) (tkS 4 l s), tkS 4 (tkR 4 l s) (tkS 4 l s))
def tq2 (l : Bs) (s : Bool) : Bs × Bool := (lsR 1 0 255 (tq1 l s).1 (tq1 l s).2, lsS 1 0 255 (tq1 l s).1 (tq1 l s).2)
def tq3 (l : Bs) (s : Bool) : Bs × Bool := (lsR 2 1 65535 (tq2 l s).1 (tq2 l s).2, lsS 2 1 65535 (tq2 l s).1 (tq2 l s).2)
def ticM (l : Bs) (s o : Bool) : (UInt32 × UInt32 × Bs × Bs × List EX) × PS := ((UInt32.ofNat (nbV 4 l s), UInt32.ofNat (nbV 4 (tkR 4 l s) (tkS 4 l s)), lsO 1 0 255 (tq1 l s).1 (tq1 l s).2, lsO 2 1 65535 (tq2 l s).1 (tq2 l s).2, (extsM (tq3 l s).1 (tq3 l s).2 o).1), (extsM (tq3 l s).1 (tq3 l s).2 o).2)
def dq1 (l : Bs) (s : Bool) : Bs × Bool := (dkR 4 (dkR 4 l s) (tkS 4 l s), tkS 4 (dkR 4 l s) (tkS 4 l s))
def dq2 (l : Bs) (s : Bool) : Bs × Bool := (ldR 1 0 255 (dq1 l s).1 (dq1 l s).2, ldS 1 0 255 (dq1 l s).1 (dq1 l s).2)
def dq3 (l : Bs) (s : Bool) : Bs × Bool := (ldR 2 1 65535 (dq2 l s).1 (dq2 l s).2, ldS 2 1 65535 (dq2 l s).1 (dq2 l s).2)
def dticM (l : Bs) (s o : Bool) : (UInt32 × UInt32 × Bs × Bs × List EX) × PS := ((UInt32.ofNat (nbV 4 l s), UInt32.ofNat (nbV 4 (dkR 4 l s) (tkS 4 l s)), ldO 1 0 255 (dq1 l s).1 (dq1 l s).2, ldO 2 1 65535 (dq2 l s).1 (dq2 l s).2, (dextsM (dq3 l s).1 (dq3 l s).2 o).1), (dextsM (dq3 l s).1 (dq3 l s).2 o).2)

theorem getreq1 (w : World) (br : Nat) (a : Option Addr) (c : Nat) (l : List UInt8) (s o : Bool) (i : InB w [.box br [.slice a (List.length l) c, .bool s, .bool o] 120] a c l) (hH : Heap w [.box br [.slice a (List.length l) c, .bool s, .bool o] 120]) : Calls Try.prog 190 #[pt br] w fun e w' => ∃ ta tc oaa oca bla oab ocb xsb, e = .returned (.agg #[.slice oaa (List.length bla) oca, .slice oab (List.length xsb) ocb]) ∧ Ev w [.box br [.slice a (List.length l) c, .bool s, .bool o] 120] w' [.box br [.slice ta (List.length ((reqM l s o).2.1)) tc, .bool ((reqM l s o).2.2.1), .bool ((reqM l s o).2.2.2)] 120, .vec oaa oca 1 (bys bla) 5, .vec oab ocb 2 (List.flatMap fExt xsb) 147, .grp (List.flatMap innExt xsb)] ∧ Sub a c l ta tc (reqM l s o).2.1 ∧ (bla, List.map (fun y : RExt => (y.1, y.2.1.l)) xsb) = (reqM l s o).1 ∧ List.length bla ≤ 4294967296 ∧ List.length xsb ≤ 4294967296 ∧ ∀ y ∈ xsb, List.length y.2.1.l ≤ 140737488351232 := by
 refine d_0 [(0, pt br)] 10 Go.Proofs.Try.func190 Go.Proofs.Try.ntmps190 (hH) fun act0 En0 Hv0 => ?_
 refine wp_seq ?_
 refine region_from ?_
 refine f_o ?_
 refine m_z 96 [.slice none 0 0, .slice none 0 0] En0 Hv0 fun ac2 wo3 bk1 En4 Hv5 => ?_
 refine f_e ?_
 refine then_normal ?_
 refine wp_seq ?_
 refine region_from ?_
 refine d_k [0,2,4] [] 1 En4 fun ac6 En7 => ?_
 refine f_o ?_
 refine c_l [0] (M := [.box br [.slice a (List.length l) c, .bool s, .bool o] 120]) En7 Hv5 (fun hM13 => list_go _ br 1 (by omega) 0 255 (by omega) (by omega) a c l s o ((i.ev Hv5).pick [0] (by kernel_rfl)) hM13) ?_
 rintro _ wo14 ⟨ao8, cp9, ta10, tc11, rfl, he15, hs12⟩
 refine ⟨_, _, [.box br [.slice ta10 (List.length (lsR 1 0 255 l s)) tc11, .bool (lsS 1 0 255 l s), .bool o] 120, .vec ao8 cp9 1 (bys (lsO 1 0 255 l s)) 5, .box bk1 [.slice none 0 0, .slice none 0 0] 96], rfl, he15, by kernel_rfl, fun ac17 En18 Hv19 => ?_⟩
 refine d_e [0,2,3] [] En18 fun ac20 En21 => ?_
 refine then_normal ?_
 refine wp_seq ?_
 refine region_from ?_
 refine d_k [0,2,6,7] [] 2 En21 fun ac22 En23 => ?_
 refine f_o ?_
 refine c_l [0] (M := [.box br [.slice ta10 (List.length (lsR 1 0 255 l s)) tc11, .bool (lsS 1 0 255 l s), .bool o] 120]) En23 Hv19 (fun hM33 => exts_go _ br ta10 tc11 (lsR 1 0 255 l s) (lsS 1 0 255 l s) o (hs12 _ _ ((i.ev Hv19).pick [0] (by kernel_rfl))) hM33) ?_
 rintro _ wo34 ⟨ta24, tc25, oa28, oc29, xs30, rfl, he35, hs26, hpu27, hf31, hf32⟩
 refine ⟨_, _, [.box br [.slice ta24 (List.length ((extsM (lsR 1 0 255 l s) (lsS 1 0 255 l s) o).2.1)) tc25, .bool ((extsM (lsR 1 0 255 l s) (lsS 1 0 255 l s) o).2.2.1), .bool ((extsM (lsR 1 0 255 l s) (lsS 1 0 255 l s) o).2.2.2)] 120, .vec oa28 oc29 2 (List.flatMap fExt xs30) 147, .grp (List.flatMap innExt xs30), .vec ao8 cp9 1 (bys (lsO 1 0 255 l s)) 5, .box bk1 [.slice none 0 0, .slice none 0 0] 96], rfl, he35, by kernel_rfl, fun ac37 En38 Hv39 => ?_⟩
 refine d_k [0,2,9] [] 4 En38 fun ac40 En41 => ?_
 refine f_o ?_
 refine m_g 4 0 2 [.slice ao8 (List.length (lsO 1 0 255 l s)) cp9, .slice oa28 (List.length xs30) oc29] [.slice ao8 (List.length (lsO 1 0 255 l s)) cp9, .slice oa28 (List.length xs30) oc29] [.box br [.slice ta24 (List.length ((extsM (lsR 1 0 255 l s) (lsS 1 0 255 l s) o).2.1)) tc25, .bool ((extsM (lsR 1 0 255 l s) (lsS 1 0 255 l s) o).2.2.1), .bool ((extsM (lsR 1 0 255 l s) (lsS 1 0 255 l s) o).2.2.2)] 120, .vec oa28 oc29 2 (List.flatMap fExt xs30) 147, .grp (List.flatMap innExt xs30), .vec ao8 cp9 1 (bys (lsO 1 0 255 l s)) 5, .box bk1 [.slice ao8 (List.length (lsO 1 0 255 l s)) cp9, .slice oa28 (List.length xs30) oc29] 96] En41 Hv39 rfl rfl (by simp) (one_all (by kernel_rfl)) rfl rfl fun ac42 wo43 En44 Hv45 => ?_
 refine f_e ?_
 refine then_normal ?_
 refine wp_ret ?_
 refine d_cell1 (v := .agg #[.slice ao8 (List.length (lsO 1 0 255 l s)) cp9, .slice oa28 (List.length xs30) oc29]) (t := 2) (T := 96) (ad := ⟨bk1, 0, none⟩) En44 (by kernel_rfl) (by kernel_rfl) (Ev.cellAgg (t := 96) (k := 4) (off := 0) (m := 2) (xs := [.slice ao8 (List.length (lsO 1 0 255 l s)) cp9, .slice oa28 (List.length xs30) oc29]) Hv45 rfl rfl rfl (by kernel_rfl) (by kernel_rfl)) ?_
 exact ⟨ta24, tc25, ao8, cp9, (lsO 1 0 255 l s), oa28, oc29, xs30, rfl, Hv45.pk [0, 3, 1, 2], (hs12.trans hs26), (by rw [hpu27]; rfl), (Nat.le_of_succ_le (lsO_32 (by decide) _ _)), hf31, hf32⟩

theorem got_getreq (w : World) (a : Option Addr) (c : Nat) (l : Bs) (i : InB w [] a c l) : Calls Try.prog 189 #[.slice a (List.length l) c, .func (.func 190) #[] #[]] w fun e w' => ∃ oaa oca bla oab ocb xsb, e = .returned (.tuple #[.agg #[.slice oaa (List.length bla) oca, .slice oab (List.length xsb) ocb], .int .i64 (gotA (reqM l false false))]) ∧ Ev w [] w' [.vec oaa oca 1 (bys bla) 5, .vec oab ocb 2 (List.flatMap fExt xsb) 147, .grp (List.flatMap innExt xsb)] ∧ (bla, List.map (fun y : RExt => (y.1, y.2.1.l)) xsb) = gotV ([], []) (reqM l false false) ∧ List.length bla ≤ 4294967296 ∧ List.length xsb ≤ 4294967296 ∧ ∀ y ∈ xsb, List.length y.2.1.l ≤ 140737488351232 := by
 refine d_0 [(0, .slice a (List.length l) c), (1, .func (.func 190) #[] #[])] 36 Go.Proofs.Try.func189 Go.Proofs.Try.ntmps189 (Heap.nil _) fun act0 En0 Hv0 => ?_
 refine wp_seq ?_
 refine region_from ?_
 refine f_o ?_
 refine m_z 96 [.slice none 0 0, .slice none 0 0] En0 Hv0 fun ac2 wo3 bk1 En4 Hv5 => ?_
 refine d_e [0,1,4,5] [] En4 fun ac6 En7 => ?_
 refine then_normal ?_
 refine wp_seq ?_
 refine region_from ?_
 refine f_o ?_
 refine m_z 96 [.slice none 0 0, .slice none 0 0] En7 Hv5 fun ac9 wo10 bk8 En11 Hv12 => ?_
 refine f_e ?_
 refine then_normal ?_
 refine wp_seq ?_
 refine region_from ?_
 refine d_k [1,4,5,6,10] [] 2 En11 fun ac13 En14 => ?_
 refine f_o ?_
 refine m_m 120 [.slice a (List.length l) c, .bool false, .bool false] En14 Hv12 fun ac16 wo17 bk15 En18 Hv19 => ?_
 refine d_e [1,4,5,6,7] [] En18 fun ac20 En21 => ?_
 refine then_normal ?_
 refine wp_seq ?_
 refine region_from ?_
 refine d_k [4,5,6,7,12,13] [] 2 En21 fun ac22 En23 => ?_
 refine f_o ?_
 refine c_l [2] (M := [.box bk15 [.slice a (List.length l) c, .bool false, .bool false] 120]) En23 Hv19 (fun hM37 => getreq1 _ bk15 a c l false false ((i.ev Hv19).pick [2] (by kernel_rfl)) hM37) ?_
 rintro _ wo38 ⟨ta24, tc25, oaa28, oca29, bla30, oab31, ocb32, xsb33, rfl, he39, hs26, hpu27, hf34, hf35, hf36⟩
 refine ⟨_, _, [.box bk15 [.slice ta24 (List.length ((reqM l false false).2.1)) tc25, .bool ((reqM l false false).2.2.1), .bool ((reqM l false false).2.2.2)] 120, .vec oaa28 oca29 1 (bys bla30) 5, .vec oab31 ocb32 2 (List.flatMap fExt xsb33) 147, .grp (List.flatMap innExt xsb33), .box bk1 [.slice none 0 0, .slice none 0 0] 96, .box bk8 [.slice none 0 0, .slice none 0 0] 96], rfl, he39, by kernel_rfl, fun ac41 En42 Hv43 => ?_⟩
 refine f_o ?_
 refine m_z 96 [.slice none 0 0, .slice none 0 0] En42 Hv43 fun ac45 wo46 bk44 En47 Hv48 => ?_
 refine f_o ?_
 refine m_g 6 0 2 [.slice oaa28 (List.length bla30) oca29, .slice oab31 (List.length xsb33) ocb32] [.slice oaa28 (List.length bla30) oca29, .slice oab31 (List.length xsb33) ocb32] [.box bk15 [.slice ta24 (List.length ((reqM l false false).2.1)) tc25, .bool ((reqM l false false).2.2.1), .bool ((reqM l false false).2.2.2)] 120, .vec oaa28 oca29 1 (bys bla30) 5, .vec oab31 ocb32 2 (List.flatMap fExt xsb33) 147, .grp (List.flatMap innExt xsb33), .box bk1 [.slice none 0 0, .slice none 0 0] 96, .box bk8 [.slice none 0 0, .slice none 0 0] 96, .box bk44 [.slice oaa28 (List.length bla30) oca29, .slice oab31 (List.length xsb33) ocb32] 96] En47 Hv48 rfl rfl (by simp) (one_all (by kernel_rfl)) rfl rfl fun ac49 wo50 En51 Hv52 => ?_
 refine f_e ?_
 refine then_normal ?_
 refine wp_seq ?_
 refine wp_block ?_
 refine wp_seq ?_
 refine region_from ?_
 refine d_k [4,5,6,7,8,18] [] 3 En51 fun ac53 En54 => ?_
 refine f_o ?_
 refine m_l 0 En54 Hv52 fun ac55 En56 => ?_
 refine d_k [4,5,6,7,8,20] [] 5 En56 fun ac57 En58 => ?_
 rcases Bool.eq_false_or_eq_true ((reqM l false false).2.2.1) with hb59 | hb59
 ·
  have En60 := En58.fx (t := 20) (congrArg Value.bool hb59)
  have hp61 : (reqM l false false).2.2.1 = true := hb59
  refine d_e [4,5,6,7,8,15] [] En60 fun ac62 En63 => ?_
  refine then_normal ?_
  refine c_t En63 ?_
  refine wp_seq ?_
  refine region_from ?_
  refine f_o ?_
  refine m_a 5 0 2 [.slice none 0 0, .slice none 0 0] En63 Hv52 rfl rfl rfl fun ac64 En65 => ?_
  refine f_o ?_
  refine m_g 4 0 2 [.slice none 0 0, .slice none 0 0] [.slice none 0 0, .slice none 0 0] [.box bk15 [.slice ta24 (List.length ((reqM l false false).2.1)) tc25, .bool ((reqM l false false).2.2.1), .bool ((reqM l false false).2.2.2)] 120, .vec oaa28 oca29 1 (bys bla30) 5, .vec oab31 ocb32 2 (List.flatMap fExt xsb33) 147, .grp (List.flatMap innExt xsb33), .box bk1 [.slice none 0 0, .slice none 0 0] 96, .box bk8 [.slice none 0 0, .slice none 0 0] 96, .box bk44 [.slice oaa28 (List.length bla30) oca29, .slice oab31 (List.length xsb33) ocb32] 96] En65 Hv52 rfl rfl (by simp) (one_all (by kernel_rfl)) rfl rfl fun ac66 wo67 En68 Hv69 => ?_
  refine d_e [4,5,6,7,8] [] En68 fun ac70 En71 => ?_
  refine then_normal ?_
  refine wp_ret ?_
  refine block_ret ?_
  refine then_ret ?_
  refine d_cell_tmp (v := .agg #[.slice none 0 0, .slice none 0 0]) (x := .int .i64 50) (t := 4) (T := 96) (ad := ⟨bk1, 0, none⟩) (u := 5) En71 (by kernel_rfl) (by kernel_rfl) (Ev.cellAgg (t := 96) (k := 4) (off := 0) (m := 2) (xs := [.slice none 0 0, .slice none 0 0]) Hv69 rfl rfl rfl (by kernel_rfl) (by kernel_rfl)) (by kernel_rfl) ?_
  have eA : gotA (reqM l false false) = 50 := Eq.symm (by first | exact end_1 (by assumption) | exact end_2 (by omega) | exact end_3 (by assumption) (by omega) (by assumption))
  rw [gotV_n eA (by decide), eA]
  have Hv72 : Ev w [] wo67 [.box bk15 [.slice ta24 (List.length ((reqM l false false).2.1)) tc25, .bool ((reqM l false false).2.2.1), .bool ((reqM l false false).2.2.2)] 120, .vec oaa28 oca29 1 (bys bla30) 5, .vec oab31 ocb32 2 (List.flatMap fExt xsb33) 147, .grp (List.flatMap innExt xsb33), .box bk1 [.slice none 0 0, .slice none 0 0] 96, .box bk8 [.slice none 0 0, .slice none 0 0] 96, .box bk44 [.slice oaa28 (List.length bla30) oca29, .slice oab31 (List.length xsb33) ocb32] 96, .vec none 0 1 (bys []) 5] := Ev.nil (sz := 1) (T := 5) Hv69
  have Hv73 : Ev w [] wo67 [.box bk15 [.slice ta24 (List.length ((reqM l false false).2.1)) tc25, .bool ((reqM l false false).2.2.1), .bool ((reqM l false false).2.2.2)] 120, .vec oaa28 oca29 1 (bys bla30) 5, .vec oab31 ocb32 2 (List.flatMap fExt xsb33) 147, .grp (List.flatMap innExt xsb33), .box bk1 [.slice none 0 0, .slice none 0 0] 96, .box bk8 [.slice none 0 0, .slice none 0 0] 96, .box bk44 [.slice oaa28 (List.length bla30) oca29, .slice oab31 (List.length xsb33) ocb32] 96, .vec none 0 1 (bys []) 5, .vec none 0 2 (List.flatMap fExt []) 147] := Ev.nil (sz := 2) (T := 147) Hv72
  have Hv74 : Ev w [] wo67 [.box bk15 [.slice ta24 (List.length ((reqM l false false).2.1)) tc25, .bool ((reqM l false false).2.2.1), .bool ((reqM l false false).2.2.2)] 120, .vec oaa28 oca29 1 (bys bla30) 5, .vec oab31 ocb32 2 (List.flatMap fExt xsb33) 147, .grp (List.flatMap innExt xsb33), .box bk1 [.slice none 0 0, .slice none 0 0] 96, .box bk8 [.slice none 0 0, .slice none 0 0] 96, .box bk44 [.slice oaa28 (List.length bla30) oca29, .slice oab31 (List.length xsb33) ocb32] 96, .vec none 0 1 (bys []) 5, .vec none 0 2 (List.flatMap fExt []) 147, .grp (List.flatMap innExt [])] := Ev.grp0 Hv73
  exact ⟨none, 0, [], none, 0, [], rfl, Hv74.pk [7, 8, 9], rfl, (Nat.zero_le _), (Nat.zero_le _), (fun y hy => by cases hy)⟩
 ·
  have En75 := En58.fx (t := 20) (congrArg Value.bool hb59)
  have hp76 : ¬ ((reqM l false false).2.2.1 = true) := Bool.eq_false_iff.1 hb59
  refine d_k [4,5,6,7,8,20,23] [] 8 En75 fun ac77 En78 => ?_
  refine f_o ?_
  refine m_l 0 En78 Hv52 fun ac79 En80 => ?_
  refine d_e [4,5,6,7,8,15] [] En80 fun ac81 En82 => ?_
  refine then_normal ?_
  refine c_d (((List.length ((reqM l false false).2.1) : Nat) : Int) > (0 : Int)) En82 (fun hc83 => ?_) (fun hc83 => ?_)
  ·
   refine wp_seq ?_
   refine region_from ?_
   refine f_o ?_
   refine m_a 5 0 2 [.slice none 0 0, .slice none 0 0] En82 Hv52 rfl rfl rfl fun ac84 En85 => ?_
   refine f_o ?_
   refine m_g 4 0 2 [.slice none 0 0, .slice none 0 0] [.slice none 0 0, .slice none 0 0] [.box bk15 [.slice ta24 (List.length ((reqM l false false).2.1)) tc25, .bool ((reqM l false false).2.2.1), .bool ((reqM l false false).2.2.2)] 120, .vec oaa28 oca29 1 (bys bla30) 5, .vec oab31 ocb32 2 (List.flatMap fExt xsb33) 147, .grp (List.flatMap innExt xsb33), .box bk1 [.slice none 0 0, .slice none 0 0] 96, .box bk8 [.slice none 0 0, .slice none 0 0] 96, .box bk44 [.slice oaa28 (List.length bla30) oca29, .slice oab31 (List.length xsb33) ocb32] 96] En85 Hv52 rfl rfl (by simp) (one_all (by kernel_rfl)) rfl rfl fun ac86 wo87 En88 Hv89 => ?_
   refine d_e [4,5,6,7,8] [] En88 fun ac90 En91 => ?_
   refine then_normal ?_
   refine wp_ret ?_
   refine block_ret ?_
   refine then_ret ?_
   refine d_cell_tmp (v := .agg #[.slice none 0 0, .slice none 0 0]) (x := .int .i64 50) (t := 4) (T := 96) (ad := ⟨bk1, 0, none⟩) (u := 5) En91 (by kernel_rfl) (by kernel_rfl) (Ev.cellAgg (t := 96) (k := 4) (off := 0) (m := 2) (xs := [.slice none 0 0, .slice none 0 0]) Hv89 rfl rfl rfl (by kernel_rfl) (by kernel_rfl)) (by kernel_rfl) ?_
   have eA : gotA (reqM l false false) = 50 := Eq.symm (by first | exact end_1 (by assumption) | exact end_2 (by omega) | exact end_3 (by assumption) (by omega) (by assumption))
   rw [gotV_n eA (by decide), eA]
   have Hv92 : Ev w [] wo87 [.box bk15 [.slice ta24 (List.length ((reqM l false false).2.1)) tc25, .bool ((reqM l false false).2.2.1), .bool ((reqM l false false).2.2.2)] 120, .vec oaa28 oca29 1 (bys bla30) 5, .vec oab31 ocb32 2 (List.flatMap fExt xsb33) 147, .grp (List.flatMap innExt xsb33), .box bk1 [.slice none 0 0, .slice none 0 0] 96, .box bk8 [.slice none 0 0, .slice none 0 0] 96, .box bk44 [.slice oaa28 (List.length bla30) oca29, .slice oab31 (List.length xsb33) ocb32] 96, .vec none 0 1 (bys []) 5] := Ev.nil (sz := 1) (T := 5) Hv89
   have Hv93 : Ev w [] wo87 [.box bk15 [.slice ta24 (List.length ((reqM l false false).2.1)) tc25, .bool ((reqM l false false).2.2.1), .bool ((reqM l false false).2.2.2)] 120, .vec oaa28 oca29 1 (bys bla30) 5, .vec oab31 ocb32 2 (List.flatMap fExt xsb33) 147, .grp (List.flatMap innExt xsb33), .box bk1 [.slice none 0 0, .slice none 0 0] 96, .box bk8 [.slice none 0 0, .slice none 0 0] 96, .box bk44 [.slice oaa28 (List.length bla30) oca29, .slice oab31 (List.length xsb33) ocb32] 96, .vec none 0 1 (bys []) 5, .vec none 0 2 (List.flatMap fExt []) 147] := Ev.nil (sz := 2) (T := 147) Hv92
   have Hv94 : Ev w [] wo87 [.box bk15 [.slice ta24 (List.length ((reqM l false false).2.1)) tc25, .bool ((reqM l false false).2.2.1), .bool ((reqM l false false).2.2.2)] 120, .vec oaa28 oca29 1 (bys bla30) 5, .vec oab31 ocb32 2 (List.flatMap fExt xsb33) 147, .grp (List.flatMap innExt xsb33), .box bk1 [.slice none 0 0, .slice none 0 0] 96, .box bk8 [.slice none 0 0, .slice none 0 0] 96, .box bk44 [.slice oaa28 (List.length bla30) oca29, .slice oab31 (List.length xsb33) ocb32] 96, .vec none 0 1 (bys []) 5, .vec none 0 2 (List.flatMap fExt []) 147, .grp (List.flatMap innExt [])] := Ev.grp0 Hv93
   exact ⟨none, 0, [], none, 0, [], rfl, Hv94.pk [7, 8, 9], rfl, (Nat.zero_le _), (Nat.zero_le _), (fun y hy => by cases hy)⟩
  ·
   refine wp_seq ?_
   refine region_from ?_
   refine d_k [4,5,6,7,8,32] [] 3 En82 fun ac95 En96 => ?_
   refine f_o ?_
   refine m_l 0 En96 Hv52 fun ac97 En98 => ?_
   refine d_e [4,5,6,7,8,29] [] En98 fun ac99 En100 => ?_
   refine then_normal ?_
   refine cond_at En100 (t := (reqM l false false).2.2.2) (by kernel_rfl) (fun hc101 => ?_) (fun hc101 => ?_)
   ·
    replace hc101 : (reqM l false false).2.2.2 = true := hc101
    refine wp_seq ?_
    refine region_from ?_
    refine f_o ?_
    refine m_a 5 0 2 [.slice none 0 0, .slice none 0 0] En100 Hv52 rfl rfl rfl fun ac102 En103 => ?_
    refine f_o ?_
    refine m_g 4 0 2 [.slice none 0 0, .slice none 0 0] [.slice none 0 0, .slice none 0 0] [.box bk15 [.slice ta24 (List.length ((reqM l false false).2.1)) tc25, .bool ((reqM l false false).2.2.1), .bool ((reqM l false false).2.2.2)] 120, .vec oaa28 oca29 1 (bys bla30) 5, .vec oab31 ocb32 2 (List.flatMap fExt xsb33) 147, .grp (List.flatMap innExt xsb33), .box bk1 [.slice none 0 0, .slice none 0 0] 96, .box bk8 [.slice none 0 0, .slice none 0 0] 96, .box bk44 [.slice oaa28 (List.length bla30) oca29, .slice oab31 (List.length xsb33) ocb32] 96] En103 Hv52 rfl rfl (by simp) (one_all (by kernel_rfl)) rfl rfl fun ac104 wo105 En106 Hv107 => ?_
    refine d_e [4,5,6,7,8] [] En106 fun ac108 En109 => ?_
    refine then_normal ?_
    refine wp_ret ?_
    refine block_ret ?_
    refine then_ret ?_
    refine d_cell_tmp (v := .agg #[.slice none 0 0, .slice none 0 0]) (x := .int .i64 47) (t := 4) (T := 96) (ad := ⟨bk1, 0, none⟩) (u := 5) En109 (by kernel_rfl) (by kernel_rfl) (Ev.cellAgg (t := 96) (k := 4) (off := 0) (m := 2) (xs := [.slice none 0 0, .slice none 0 0]) Hv107 rfl rfl rfl (by kernel_rfl) (by kernel_rfl)) (by kernel_rfl) ?_
    have eA : gotA (reqM l false false) = 47 := Eq.symm (by first | exact end_1 (by assumption) | exact end_2 (by omega) | exact end_3 (by assumption) (by omega) (by assumption))
    rw [gotV_n eA (by decide), eA]
    have Hv110 : Ev w [] wo105 [.box bk15 [.slice ta24 (List.length ((reqM l false false).2.1)) tc25, .bool ((reqM l false false).2.2.1), .bool ((reqM l false false).2.2.2)] 120, .vec oaa28 oca29 1 (bys bla30) 5, .vec oab31 ocb32 2 (List.flatMap fExt xsb33) 147, .grp (List.flatMap innExt xsb33), .box bk1 [.slice none 0 0, .slice none 0 0] 96, .box bk8 [.slice none 0 0, .slice none 0 0] 96, .box bk44 [.slice oaa28 (List.length bla30) oca29, .slice oab31 (List.length xsb33) ocb32] 96, .vec none 0 1 (bys []) 5] := Ev.nil (sz := 1) (T := 5) Hv107
    have Hv111 : Ev w [] wo105 [.box bk15 [.slice ta24 (List.length ((reqM l false false).2.1)) tc25, .bool ((reqM l false false).2.2.1), .bool ((reqM l false false).2.2.2)] 120, .vec oaa28 oca29 1 (bys bla30) 5, .vec oab31 ocb32 2 (List.flatMap fExt xsb33) 147, .grp (List.flatMap innExt xsb33), .box bk1 [.slice none 0 0, .slice none 0 0] 96, .box bk8 [.slice none 0 0, .slice none 0 0] 96, .box bk44 [.slice oaa28 (List.length bla30) oca29, .slice oab31 (List.length xsb33) ocb32] 96, .vec none 0 1 (bys []) 5, .vec none 0 2 (List.flatMap fExt []) 147] := Ev.nil (sz := 2) (T := 147) Hv110
    have Hv112 : Ev w [] wo105 [.box bk15 [.slice ta24 (List.length ((reqM l false false).2.1)) tc25, .bool ((reqM l false false).2.2.1), .bool ((reqM l false false).2.2.2)] 120, .vec oaa28 oca29 1 (bys bla30) 5, .vec oab31 ocb32 2 (List.flatMap fExt xsb33) 147, .grp (List.flatMap innExt xsb33), .box bk1 [.slice none 0 0, .slice none 0 0] 96, .box bk8 [.slice none 0 0, .slice none 0 0] 96, .box bk44 [.slice oaa28 (List.length bla30) oca29, .slice oab31 (List.length xsb33) ocb32] 96, .vec none 0 1 (bys []) 5, .vec none 0 2 (List.flatMap fExt []) 147, .grp (List.flatMap innExt [])] := Ev.grp0 Hv111
    exact ⟨none, 0, [], none, 0, [], rfl, Hv112.pk [7, 8, 9], rfl, (Nat.zero_le _), (Nat.zero_le _), (fun y hy => by cases hy)⟩
   ·
    replace hc101 : ¬ ((reqM l false false).2.2.2 = true) := Bool.eq_false_iff.1 hc101
    refine wp_skip ?_
    refine block_normal ?_
    refine then_normal ?_
    refine wp_seq ?_
    refine region_from ?_
    refine f_o ?_
    refine m_a 6 0 2 [.slice oaa28 (List.length bla30) oca29, .slice oab31 (List.length xsb33) ocb32] En100 Hv52 rfl rfl rfl fun ac113 En114 => ?_
    refine f_o ?_
    refine m_g 4 0 2 [.slice oaa28 (List.length bla30) oca29, .slice oab31 (List.length xsb33) ocb32] [.slice oaa28 (List.length bla30) oca29, .slice oab31 (List.length xsb33) ocb32] [.box bk15 [.slice ta24 (List.length ((reqM l false false).2.1)) tc25, .bool ((reqM l false false).2.2.1), .bool ((reqM l false false).2.2.2)] 120, .vec oaa28 oca29 1 (bys bla30) 5, .vec oab31 ocb32 2 (List.flatMap fExt xsb33) 147, .grp (List.flatMap innExt xsb33), .box bk1 [.slice oaa28 (List.length bla30) oca29, .slice oab31 (List.length xsb33) ocb32] 96, .box bk8 [.slice none 0 0, .slice none 0 0] 96, .box bk44 [.slice oaa28 (List.length bla30) oca29, .slice oab31 (List.length xsb33) ocb32] 96] En114 Hv52 rfl rfl (by simp) (one_all (by kernel_rfl)) rfl rfl fun ac115 wo116 En117 Hv118 => ?_
    refine d_e [4,5,6,7,8] [] En117 fun ac119 En120 => ?_
    refine then_normal ?_
    refine wp_ret ?_
    refine d_cell_tmp (v := .agg #[.slice oaa28 (List.length bla30) oca29, .slice oab31 (List.length xsb33) ocb32]) (x := .int .i64 0) (t := 4) (T := 96) (ad := ⟨bk1, 0, none⟩) (u := 5) En120 (by kernel_rfl) (by kernel_rfl) (Ev.cellAgg (t := 96) (k := 4) (off := 0) (m := 2) (xs := [.slice oaa28 (List.length bla30) oca29, .slice oab31 (List.length xsb33) ocb32]) Hv118 rfl rfl rfl (by kernel_rfl) (by kernel_rfl)) (by kernel_rfl) ?_
    have eA : gotA (reqM l false false) = 0 := (end_4 (by assumption) (by omega) (by assumption)).symm
    rw [gotV_0 eA, eA]
    exact ⟨oaa28, oca29, bla30, oab31, ocb32, xsb33, rfl, Hv118.pk [1, 2, 3], hpu27, hf34, hf35, hf36⟩

theorem getrequest_go (w : World) (aq : Option Addr) (nq cq : Nat) (lq : List UInt8) (eq : nq = List.length lq) (iq : InB w [] aq cq lq) : Calls Try.prog 82 #[.slice aq nq cq] w fun e w' => ∃ oaa oca bla oab ocb xsb, e = .returned (.tuple #[.agg #[.slice oaa (List.length bla) oca, .slice oab (List.length xsb) ocb], .int .i64 (gotA (reqM lq false false))]) ∧ Ev w [] w' [.vec oaa oca 1 (bys bla) 5, .vec oab ocb 2 (List.flatMap fExt xsb) 147, .grp (List.flatMap innExt xsb)] ∧ (bla, List.map (fun y : RExt => (y.1, y.2.1.l)) xsb) = gotV ([], []) (reqM lq false false) ∧ List.length bla ≤ 4294967296 ∧ List.length xsb ≤ 4294967296 ∧ ∀ y ∈ xsb, List.length y.2.1.l ≤ 140737488351232 := by
 subst eq
 refine d_0 [(0, .slice aq (List.length lq) cq)] 8 Go.Proofs.Try.func82 Go.Proofs.Try.ntmps82 (Heap.nil _) fun act0 En0 Hv0 => ?_
 refine wp_seq ?_
 refine region_from ?_
 refine f_o ?_
 refine m_z 96 [.slice none 0 0, .slice none 0 0] En0 Hv0 fun ac2 wo3 bk1 En4 Hv5 => ?_
 refine d_e [0,2,3] [] En4 fun ac6 En7 => ?_
 refine then_normal ?_
 refine wp_seq ?_
 refine region_from ?_
 refine d_k [2,3,4] [] 1 En7 fun ac8 En9 => ?_
 refine f_o ?_
 refine c_0 En9 Hv5 (got_getreq _ aq cq lq ((iq.ev Hv5).pick [] (by kernel_rfl))) ?_
 rintro _ wo21 ⟨oaa10, oca11, bla12, oab13, ocb14, xsb15, rfl, he22, hpu16, hf17, hf18, hf19⟩
 refine ⟨_, _, _, rfl, he22, rfl, fun ac24 En25 Hv26 => ?_⟩
 refine d_k [2,3,6,7] [] 4 En25 fun ac27 En28 => ?_
 refine f_o ?_
 refine m_g 3 0 2 [.slice oaa10 (List.length bla12) oca11, .slice oab13 (List.length xsb15) ocb14] [.slice oaa10 (List.length bla12) oca11, .slice oab13 (List.length xsb15) ocb14] [.vec oaa10 oca11 1 (bys bla12) 5, .vec oab13 ocb14 2 (List.flatMap fExt xsb15) 147, .grp (List.flatMap innExt xsb15), .box bk1 [.slice oaa10 (List.length bla12) oca11, .slice oab13 (List.length xsb15) ocb14] 96] En28 Hv26 rfl rfl (by simp) (one_all (by kernel_rfl)) rfl rfl fun ac29 wo30 En31 Hv32 => ?_
 refine d_e [2,3] [] En31 fun ac33 En34 => ?_
 refine then_normal ?_
 refine wp_ret ?_
 refine d_cell_tmp (v := .agg #[.slice oaa10 (List.length bla12) oca11, .slice oab13 (List.length xsb15) ocb14]) (x := .int .i64 (gotA (reqM lq false false))) (t := 2) (T := 96) (ad := ⟨bk1, 0, none⟩) (u := 3) En34 (by kernel_rfl) (by kernel_rfl) (Ev.cellAgg (t := 96) (k := 3) (off := 0) (m := 2) (xs := [.slice oaa10 (List.length bla12) oca11, .slice oab13 (List.length xsb15) ocb14]) Hv32 rfl rfl rfl (by kernel_rfl) (by kernel_rfl)) (by kernel_rfl) ?_
 exact ⟨oaa10, oca11, bla12, oab13, ocb14, xsb15, rfl, Hv32.pk [0, 1, 2], hpu16, hf17, hf18, hf19⟩

theorem getver1 (w : World) (br : Nat) (a : Option Addr) (c : Nat) (l : List UInt8) (s o : Bool) (i : InB w [.box br [.slice a (List.length l) c, .bool s, .bool o] 120] a c l) (hH : Heap w [.box br [.slice a (List.length l) c, .bool s, .bool o] 120]) : Calls Try.prog 192 #[pt br] w fun e w' => ∃ ta tc xva oab ocb blb, e = .returned (.agg #[uv16 xva, .slice oab (List.length blb) ocb]) ∧ Ev w [.box br [.slice a (List.length l) c, .bool s, .bool o] 120] w' [.box br [.slice ta (List.length ((extM l s o).2.1)) tc, .bool ((extM l s o).2.2.1), .bool ((extM l s o).2.2.2)] 120, .vec oab ocb 1 (bys blb) 5] ∧ Sub a c l ta tc (extM l s o).2.1 ∧ (xva, blb) = (extM l s o).1 ∧ List.length blb ≤ 4294967296 := by
 refine d_0 [(0, pt br)] 10 Go.Proofs.Try.func192 Go.Proofs.Try.ntmps192 (hH) fun act0 En0 Hv0 => ?_
 refine wp_seq ?_
 refine region_from ?_
 refine f_o ?_
 refine m_z 88 [.int .u16 0, .slice none 0 0] En0 Hv0 fun ac2 wo3 bk1 En4 Hv5 => ?_
 refine f_e ?_
 refine then_normal ?_
 refine wp_seq ?_
 refine region_from ?_
 refine d_k [0,2,4] [] 1 En4 fun ac6 En7 => ?_
 refine f_o ?_
 refine c_l [0] (M := [.box br [.slice a (List.length l) c, .bool s, .bool o] 120]) En7 Hv5 (fun hM11 => u16_go _ br a c l s o ((i.ev Hv5).pick [0] (by kernel_rfl)) hM11) ?_
 rintro _ wo12 ⟨ta8, tc9, rfl, he13, hs10⟩
 refine ⟨_, _, [.box br [.slice ta8 (List.length (tkR 2 l s)) tc9, .bool (tkS 2 l s), .bool o] 120, .box bk1 [.int .u16 0, .slice none 0 0] 88], rfl, he13, by kernel_rfl, fun ac15 En16 Hv17 => ?_⟩
 refine d_e [0,2,3] [] En16 fun ac18 En19 => ?_
 refine then_normal ?_
 refine wp_seq ?_
 refine region_from ?_
 refine d_k [0,2,6,7] [] 2 En19 fun ac20 En21 => ?_
 refine f_o ?_
 refine c_l [0] (M := [.box br [.slice ta8 (List.length (tkR 2 l s)) tc9, .bool (tkS 2 l s), .bool o] 120]) En21 Hv17 (fun hM27 => list_go _ br 2 (by omega) 0 65535 (by omega) (by omega) ta8 tc9 (tkR 2 l s) (tkS 2 l s) o (hs10 _ _ ((i.ev Hv17).pick [0] (by kernel_rfl))) hM27) ?_
 rintro _ wo28 ⟨ao22, cp23, ta24, tc25, rfl, he29, hs26⟩
 refine ⟨_, _, [.box br [.slice ta24 (List.length (lsR 2 0 65535 (tkR 2 l s) (tkS 2 l s))) tc25, .bool (lsS 2 0 65535 (tkR 2 l s) (tkS 2 l s)), .bool o] 120, .vec ao22 cp23 1 (bys (lsO 2 0 65535 (tkR 2 l s) (tkS 2 l s))) 5, .box bk1 [.int .u16 0, .slice none 0 0] 88], rfl, he29, by kernel_rfl, fun ac31 En32 Hv33 => ?_⟩
 refine d_k [0,2,9] [] 4 En32 fun ac34 En35 => ?_
 refine f_o ?_
 refine m_g 2 0 2 [.int .u16 ((UInt16.toNat (UInt16.ofNat (nbV 2 l s)) : Nat) : Int), .slice ao22 (List.length (lsO 2 0 65535 (tkR 2 l s) (tkS 2 l s))) cp23] [.int .u16 ((UInt16.toNat (UInt16.ofNat (nbV 2 l s)) : Nat) : Int), .slice ao22 (List.length (lsO 2 0 65535 (tkR 2 l s) (tkS 2 l s))) cp23] [.box br [.slice ta24 (List.length (lsR 2 0 65535 (tkR 2 l s) (tkS 2 l s))) tc25, .bool (lsS 2 0 65535 (tkR 2 l s) (tkS 2 l s)), .bool o] 120, .vec ao22 cp23 1 (bys (lsO 2 0 65535 (tkR 2 l s) (tkS 2 l s))) 5, .box bk1 [.int .u16 ((UInt16.toNat (UInt16.ofNat (nbV 2 l s)) : Nat) : Int), .slice ao22 (List.length (lsO 2 0 65535 (tkR 2 l s) (tkS 2 l s))) cp23] 88] En35 Hv33 rfl rfl (by simp) (one_all (by kernel_rfl)) rfl rfl fun ac36 wo37 En38 Hv39 => ?_
 refine f_e ?_
 refine then_normal ?_
 refine wp_ret ?_
 refine d_cell1 (v := .agg #[.int .u16 ((UInt16.toNat (UInt16.ofNat (nbV 2 l s)) : Nat) : Int), .slice ao22 (List.length (lsO 2 0 65535 (tkR 2 l s) (tkS 2 l s))) cp23]) (t := 2) (T := 88) (ad := ⟨bk1, 0, none⟩) En38 (by kernel_rfl) (by kernel_rfl) (Ev.cellAgg (t := 88) (k := 2) (off := 0) (m := 2) (xs := [.int .u16 ((UInt16.toNat (UInt16.ofNat (nbV 2 l s)) : Nat) : Int), .slice ao22 (List.length (lsO 2 0 65535 (tkR 2 l s) (tkS 2 l s))) cp23]) Hv39 rfl rfl rfl (by kernel_rfl) (by kernel_rfl)) ?_
 exact ⟨ta24, tc25, (UInt16.ofNat (nbV 2 l s)), ao22, cp23, (lsO 2 0 65535 (tkR 2 l s) (tkS 2 l s)), rfl, Hv39.pk [0, 1], (hs10.trans hs26), rfl, (Nat.le_of_succ_le (lsO_32 (by decide) _ _))⟩

theorem got_getver (w : World) (a : Option Addr) (c : Nat) (l : Bs) (i : InB w [] a c l) : Calls Try.prog 191 #[.slice a (List.length l) c, .func (.func 192) #[] #[]] w fun e w' => ∃ xva oab ocb blb, e = .returned (.tuple #[.agg #[uv16 xva, .slice oab (List.length blb) ocb], .int .i64 (gotA (extM l false false))]) ∧ Ev w [] w' [.vec oab ocb 1 (bys blb) 5] ∧ (xva, blb) = gotV (0, []) (extM l false false) ∧ List.length blb ≤ 4294967296 := by
 refine d_0 [(0, .slice a (List.length l) c), (1, .func (.func 192) #[] #[])] 36 Go.Proofs.Try.func191 Go.Proofs.Try.ntmps191 (Heap.nil _) fun act0 En0 Hv0 => ?_
 refine wp_seq ?_
 refine region_from ?_
 refine f_o ?_
 refine m_z 88 [.int .u16 0, .slice none 0 0] En0 Hv0 fun ac2 wo3 bk1 En4 Hv5 => ?_
 refine d_e [0,1,4,5] [] En4 fun ac6 En7 => ?_
 refine then_normal ?_
 refine wp_seq ?_
 refine region_from ?_
 refine f_o ?_
 refine m_z 88 [.int .u16 0, .slice none 0 0] En7 Hv5 fun ac9 wo10 bk8 En11 Hv12 => ?_
 refine f_e ?_
 refine then_normal ?_
 refine wp_seq ?_
 refine region_from ?_
 refine d_k [1,4,5,6,10] [] 2 En11 fun ac13 En14 => ?_
 refine f_o ?_
 refine m_m 120 [.slice a (List.length l) c, .bool false, .bool false] En14 Hv12 fun ac16 wo17 bk15 En18 Hv19 => ?_
 refine d_e [1,4,5,6,7] [] En18 fun ac20 En21 => ?_
 refine then_normal ?_
 refine wp_seq ?_
 refine region_from ?_
 refine d_k [4,5,6,7,12,13] [] 2 En21 fun ac22 En23 => ?_
 refine f_o ?_
 refine c_l [2] (M := [.box bk15 [.slice a (List.length l) c, .bool false, .bool false] 120]) En23 Hv19 (fun hM33 => getver1 _ bk15 a c l false false ((i.ev Hv19).pick [2] (by kernel_rfl)) hM33) ?_
 rintro _ wo34 ⟨ta24, tc25, xva28, oab29, ocb30, blb31, rfl, he35, hs26, hpu27, hf32⟩
 refine ⟨_, _, [.box bk15 [.slice ta24 (List.length ((extM l false false).2.1)) tc25, .bool ((extM l false false).2.2.1), .bool ((extM l false false).2.2.2)] 120, .vec oab29 ocb30 1 (bys blb31) 5, .box bk1 [.int .u16 0, .slice none 0 0] 88, .box bk8 [.int .u16 0, .slice none 0 0] 88], rfl, he35, by kernel_rfl, fun ac37 En38 Hv39 => ?_⟩
 refine f_o ?_
 refine m_z 88 [.int .u16 0, .slice none 0 0] En38 Hv39 fun ac41 wo42 bk40 En43 Hv44 => ?_
 refine f_o ?_
 refine m_g 4 0 2 [uv16 xva28, .slice oab29 (List.length blb31) ocb30] [uv16 xva28, .slice oab29 (List.length blb31) ocb30] [.box bk15 [.slice ta24 (List.length ((extM l false false).2.1)) tc25, .bool ((extM l false false).2.2.1), .bool ((extM l false false).2.2.2)] 120, .vec oab29 ocb30 1 (bys blb31) 5, .box bk1 [.int .u16 0, .slice none 0 0] 88, .box bk8 [.int .u16 0, .slice none 0 0] 88, .box bk40 [uv16 xva28, .slice oab29 (List.length blb31) ocb30] 88] En43 Hv44 rfl rfl (by simp) (one_all (by kernel_rfl)) rfl rfl fun ac45 wo46 En47 Hv48 => ?_
 refine f_e ?_
 refine then_normal ?_
 refine wp_seq ?_
 refine wp_block ?_
 refine wp_seq ?_
 refine region_from ?_
 refine d_k [4,5,6,7,8,18] [] 3 En47 fun ac49 En50 => ?_
 refine f_o ?_
 refine m_l 0 En50 Hv48 fun ac51 En52 => ?_
 refine d_k [4,5,6,7,8,20] [] 5 En52 fun ac53 En54 => ?_
 rcases Bool.eq_false_or_eq_true ((extM l false false).2.2.1) with hb55 | hb55
 ·
  have En56 := En54.fx (t := 20) (congrArg Value.bool hb55)
  have hp57 : (extM l false false).2.2.1 = true := hb55
  refine d_e [4,5,6,7,8,15] [] En56 fun ac58 En59 => ?_
  refine then_normal ?_
  refine c_t En59 ?_
  refine wp_seq ?_
  refine region_from ?_
  refine f_o ?_
  refine m_a 3 0 2 [.int .u16 0, .slice none 0 0] En59 Hv48 rfl rfl rfl fun ac60 En61 => ?_
  refine f_o ?_
  refine m_g 2 0 2 [.int .u16 0, .slice none 0 0] [.int .u16 0, .slice none 0 0] [.box bk15 [.slice ta24 (List.length ((extM l false false).2.1)) tc25, .bool ((extM l false false).2.2.1), .bool ((extM l false false).2.2.2)] 120, .vec oab29 ocb30 1 (bys blb31) 5, .box bk1 [.int .u16 0, .slice none 0 0] 88, .box bk8 [.int .u16 0, .slice none 0 0] 88, .box bk40 [uv16 xva28, .slice oab29 (List.length blb31) ocb30] 88] En61 Hv48 rfl rfl (by simp) (one_all (by kernel_rfl)) rfl rfl fun ac62 wo63 En64 Hv65 => ?_
  refine d_e [4,5,6,7,8] [] En64 fun ac66 En67 => ?_
  refine then_normal ?_
  refine wp_ret ?_
  refine block_ret ?_
  refine then_ret ?_
  refine d_cell_tmp (v := .agg #[.int .u16 0, .slice none 0 0]) (x := .int .i64 50) (t := 4) (T := 88) (ad := ⟨bk1, 0, none⟩) (u := 5) En67 (by kernel_rfl) (by kernel_rfl) (Ev.cellAgg (t := 88) (k := 2) (off := 0) (m := 2) (xs := [.int .u16 0, .slice none 0 0]) Hv65 rfl rfl rfl (by kernel_rfl) (by kernel_rfl)) (by kernel_rfl) ?_
  have eA : gotA (extM l false false) = 50 := Eq.symm (by first | exact end_1 (by assumption) | exact end_2 (by omega) | exact end_3 (by assumption) (by omega) (by assumption))
  rw [gotV_n eA (by decide), eA]
  have Hv68 : Ev w [] wo63 [.box bk15 [.slice ta24 (List.length ((extM l false false).2.1)) tc25, .bool ((extM l false false).2.2.1), .bool ((extM l false false).2.2.2)] 120, .vec oab29 ocb30 1 (bys blb31) 5, .box bk1 [.int .u16 0, .slice none 0 0] 88, .box bk8 [.int .u16 0, .slice none 0 0] 88, .box bk40 [uv16 xva28, .slice oab29 (List.length blb31) ocb30] 88, .vec none 0 1 (bys []) 5] := Ev.nil (sz := 1) (T := 5) Hv65
  exact ⟨0, none, 0, [], rfl, Hv68.pk [5], rfl, (Nat.zero_le _)⟩
 ·
  have En69 := En54.fx (t := 20) (congrArg Value.bool hb55)
  have hp70 : ¬ ((extM l false false).2.2.1 = true) := Bool.eq_false_iff.1 hb55
  refine d_k [4,5,6,7,8,20,23] [] 8 En69 fun ac71 En72 => ?_
  refine f_o ?_
  refine m_l 0 En72 Hv48 fun ac73 En74 => ?_
  refine d_e [4,5,6,7,8,15] [] En74 fun ac75 En76 => ?_
  refine then_normal ?_
  refine c_d (((List.length ((extM l false false).2.1) : Nat) : Int) > (0 : Int)) En76 (fun hc77 => ?_) (fun hc77 => ?_)
  ·
   refine wp_seq ?_
   refine region_from ?_
   refine f_o ?_
   refine m_a 3 0 2 [.int .u16 0, .slice none 0 0] En76 Hv48 rfl rfl rfl fun ac78 En79 => ?_
   refine f_o ?_
   refine m_g 2 0 2 [.int .u16 0, .slice none 0 0] [.int .u16 0, .slice none 0 0] [.box bk15 [.slice ta24 (List.length ((extM l false false).2.1)) tc25, .bool ((extM l false false).2.2.1), .bool ((extM l false false).2.2.2)] 120, .vec oab29 ocb30 1 (bys blb31) 5, .box bk1 [.int .u16 0, .slice none 0 0] 88, .box bk8 [.int .u16 0, .slice none 0 0] 88, .box bk40 [uv16 xva28, .slice oab29 (List.length blb31) ocb30] 88] En79 Hv48 rfl rfl (by simp) (one_all (by kernel_rfl)) rfl rfl fun ac80 wo81 En82 Hv83 => ?_
   refine d_e [4,5,6,7,8] [] En82 fun ac84 En85 => ?_
   refine then_normal ?_
   refine wp_ret ?_
   refine block_ret ?_
   refine then_ret ?_
   refine d_cell_tmp (v := .agg #[.int .u16 0, .slice none 0 0]) (x := .int .i64 50) (t := 4) (T := 88) (ad := ⟨bk1, 0, none⟩) (u := 5) En85 (by kernel_rfl) (by kernel_rfl) (Ev.cellAgg (t := 88) (k := 2) (off := 0) (m := 2) (xs := [.int .u16 0, .slice none 0 0]) Hv83 rfl rfl rfl (by kernel_rfl) (by kernel_rfl)) (by kernel_rfl) ?_
   have eA : gotA (extM l false false) = 50 := Eq.symm (by first | exact end_1 (by assumption) | exact end_2 (by omega) | exact end_3 (by assumption) (by omega) (by assumption))
   rw [gotV_n eA (by decide), eA]
   have Hv86 : Ev w [] wo81 [.box bk15 [.slice ta24 (List.length ((extM l false false).2.1)) tc25, .bool ((extM l false false).2.2.1), .bool ((extM l false false).2.2.2)] 120, .vec oab29 ocb30 1 (bys blb31) 5, .box bk1 [.int .u16 0, .slice none 0 0] 88, .box bk8 [.int .u16 0, .slice none 0 0] 88, .box bk40 [uv16 xva28, .slice oab29 (List.length blb31) ocb30] 88, .vec none 0 1 (bys []) 5] := Ev.nil (sz := 1) (T := 5) Hv83
   exact ⟨0, none, 0, [], rfl, Hv86.pk [5], rfl, (Nat.zero_le _)⟩
  ·
   refine wp_seq ?_
   refine region_from ?_
   refine d_k [4,5,6,7,8,32] [] 3 En76 fun ac87 En88 => ?_
   refine f_o ?_
   refine m_l 0 En88 Hv48 fun ac89 En90 => ?_
   refine d_e [4,5,6,7,8,29] [] En90 fun ac91 En92 => ?_
   refine then_normal ?_
   refine cond_at En92 (t := (extM l false false).2.2.2) (by kernel_rfl) (fun hc93 => ?_) (fun hc93 => ?_)
   ·
    replace hc93 : (extM l false false).2.2.2 = true := hc93
    refine wp_seq ?_
    refine region_from ?_
    refine f_o ?_
    refine m_a 3 0 2 [.int .u16 0, .slice none 0 0] En92 Hv48 rfl rfl rfl fun ac94 En95 => ?_
    refine f_o ?_
    refine m_g 2 0 2 [.int .u16 0, .slice none 0 0] [.int .u16 0, .slice none 0 0] [.box bk15 [.slice ta24 (List.length ((extM l false false).2.1)) tc25, .bool ((extM l false false).2.2.1), .bool ((extM l false false).2.2.2)] 120, .vec oab29 ocb30 1 (bys blb31) 5, .box bk1 [.int .u16 0, .slice none 0 0] 88, .box bk8 [.int .u16 0, .slice none 0 0] 88, .box bk40 [uv16 xva28, .slice oab29 (List.length blb31) ocb30] 88] En95 Hv48 rfl rfl (by simp) (one_all (by kernel_rfl)) rfl rfl fun ac96 wo97 En98 Hv99 => ?_
    refine d_e [4,5,6,7,8] [] En98 fun ac100 En101 => ?_
    refine then_normal ?_
    refine wp_ret ?_
    refine block_ret ?_
    refine then_ret ?_
    refine d_cell_tmp (v := .agg #[.int .u16 0, .slice none 0 0]) (x := .int .i64 47) (t := 4) (T := 88) (ad := ⟨bk1, 0, none⟩) (u := 5) En101 (by kernel_rfl) (by kernel_rfl) (Ev.cellAgg (t := 88) (k := 2) (off := 0) (m := 2) (xs := [.int .u16 0, .slice none 0 0]) Hv99 rfl rfl rfl (by kernel_rfl) (by kernel_rfl)) (by kernel_rfl) ?_
    have eA : gotA (extM l false false) = 47 := Eq.symm (by first | exact end_1 (by assumption) | exact end_2 (by omega) | exact end_3 (by assumption) (by omega) (by assumption))
    rw [gotV_n eA (by decide), eA]
    have Hv102 : Ev w [] wo97 [.box bk15 [.slice ta24 (List.length ((extM l false false).2.1)) tc25, .bool ((extM l false false).2.2.1), .bool ((extM l false false).2.2.2)] 120, .vec oab29 ocb30 1 (bys blb31) 5, .box bk1 [.int .u16 0, .slice none 0 0] 88, .box bk8 [.int .u16 0, .slice none 0 0] 88, .box bk40 [uv16 xva28, .slice oab29 (List.length blb31) ocb30] 88, .vec none 0 1 (bys []) 5] := Ev.nil (sz := 1) (T := 5) Hv99
    exact ⟨0, none, 0, [], rfl, Hv102.pk [5], rfl, (Nat.zero_le _)⟩
   ·
    replace hc93 : ¬ ((extM l false false).2.2.2 = true) := Bool.eq_false_iff.1 hc93
    refine wp_skip ?_
    refine block_normal ?_
    refine then_normal ?_
    refine wp_seq ?_
    refine region_from ?_
    refine f_o ?_
    refine m_a 4 0 2 [uv16 xva28, .slice oab29 (List.length blb31) ocb30] En92 Hv48 rfl rfl rfl fun ac103 En104 => ?_
    refine f_o ?_
    refine m_g 2 0 2 [uv16 xva28, .slice oab29 (List.length blb31) ocb30] [uv16 xva28, .slice oab29 (List.length blb31) ocb30] [.box bk15 [.slice ta24 (List.length ((extM l false false).2.1)) tc25, .bool ((extM l false false).2.2.1), .bool ((extM l false false).2.2.2)] 120, .vec oab29 ocb30 1 (bys blb31) 5, .box bk1 [uv16 xva28, .slice oab29 (List.length blb31) ocb30] 88, .box bk8 [.int .u16 0, .slice none 0 0] 88, .box bk40 [uv16 xva28, .slice oab29 (List.length blb31) ocb30] 88] En104 Hv48 rfl rfl (by simp) (one_all (by kernel_rfl)) rfl rfl fun ac105 wo106 En107 Hv108 => ?_
    refine d_e [4,5,6,7,8] [] En107 fun ac109 En110 => ?_
    refine then_normal ?_
    refine wp_ret ?_
    refine d_cell_tmp (v := .agg #[uv16 xva28, .slice oab29 (List.length blb31) ocb30]) (x := .int .i64 0) (t := 4) (T := 88) (ad := ⟨bk1, 0, none⟩) (u := 5) En110 (by kernel_rfl) (by kernel_rfl) (Ev.cellAgg (t := 88) (k := 2) (off := 0) (m := 2) (xs := [uv16 xva28, .slice oab29 (List.length blb31) ocb30]) Hv108 rfl rfl rfl (by kernel_rfl) (by kernel_rfl)) (by kernel_rfl) ?_
    have eA : gotA (extM l false false) = 0 := (end_4 (by assumption) (by omega) (by assumption)).symm
    rw [gotV_0 eA, eA]
    exact ⟨xva28, oab29, ocb30, blb31, rfl, Hv108.pk [1], hpu27, hf32⟩

theorem getverify_go (w : World) (aq : Option Addr) (nq cq : Nat) (lq : List UInt8) (eq : nq = List.length lq) (iq : InB w [] aq cq lq) : Calls Try.prog 84 #[.slice aq nq cq] w fun e w' => ∃ xva oab ocb blb, e = .returned (.tuple #[.agg #[uv16 xva, .slice oab (List.length blb) ocb], .int .i64 (gotA (extM lq false false))]) ∧ Ev w [] w' [.vec oab ocb 1 (bys blb) 5] ∧ (xva, blb) = gotV (0, []) (extM lq false false) ∧ List.length blb ≤ 4294967296 := by
 subst eq
 refine d_0 [(0, .slice aq (List.length lq) cq)] 8 Go.Proofs.Try.func84 Go.Proofs.Try.ntmps84 (Heap.nil _) fun act0 En0 Hv0 => ?_
 refine wp_seq ?_
 refine region_from ?_
 refine f_o ?_
 refine m_z 88 [.int .u16 0, .slice none 0 0] En0 Hv0 fun ac2 wo3 bk1 En4 Hv5 => ?_
 refine d_e [0,2,3] [] En4 fun ac6 En7 => ?_
 refine then_normal ?_
 refine wp_seq ?_
 refine region_from ?_
 refine d_k [2,3,4] [] 1 En7 fun ac8 En9 => ?_
 refine f_o ?_
 refine c_0 En9 Hv5 (got_getver _ aq cq lq ((iq.ev Hv5).pick [] (by kernel_rfl))) ?_
 rintro _ wo17 ⟨xva10, oab11, ocb12, blb13, rfl, he18, hpu14, hf15⟩
 refine ⟨_, _, _, rfl, he18, rfl, fun ac20 En21 Hv22 => ?_⟩
 refine d_k [2,3,6,7] [] 4 En21 fun ac23 En24 => ?_
 refine f_o ?_
 refine m_g 1 0 2 [uv16 xva10, .slice oab11 (List.length blb13) ocb12] [uv16 xva10, .slice oab11 (List.length blb13) ocb12] [.vec oab11 ocb12 1 (bys blb13) 5, .box bk1 [uv16 xva10, .slice oab11 (List.length blb13) ocb12] 88] En24 Hv22 rfl rfl (by simp) (one_all (by kernel_rfl)) rfl rfl fun ac25 wo26 En27 Hv28 => ?_
 refine d_e [2,3] [] En27 fun ac29 En30 => ?_
 refine then_normal ?_
 refine wp_ret ?_
 refine d_cell_tmp (v := .agg #[uv16 xva10, .slice oab11 (List.length blb13) ocb12]) (x := .int .i64 (gotA (extM lq false false))) (t := 2) (T := 88) (ad := ⟨bk1, 0, none⟩) (u := 3) En30 (by kernel_rfl) (by kernel_rfl) (Ev.cellAgg (t := 88) (k := 1) (off := 0) (m := 2) (xs := [uv16 xva10, .slice oab11 (List.length blb13) ocb12]) Hv28 rfl rfl rfl (by kernel_rfl) (by kernel_rfl)) (by kernel_rfl) ?_
 exact ⟨xva10, oab11, ocb12, blb13, rfl, Hv28.pk [0], hpu14, hf15⟩

theorem gettic1 (w : World) (br : Nat) (a : Option Addr) (c : Nat) (l : List UInt8) (s o : Bool) (i : InB w [.box br [.slice a (List.length l) c, .bool s, .bool o] 120] a c l) (hH : Heap w [.box br [.slice a (List.length l) c, .bool s, .bool o] 120]) : Calls Try.prog 194 #[pt br] w fun e w' => ∃ ta tc xva xvb oac occ blc oad ocd bld oae oce xse, e = .returned (.agg #[uv32 xva, uv32 xvb, .slice oac (List.length blc) occ, .slice oad (List.length bld) ocd, .slice oae (List.length xse) oce]) ∧ Ev w [.box br [.slice a (List.length l) c, .bool s, .bool o] 120] w' [.box br [.slice ta (List.length ((ticM l s o).2.1)) tc, .bool ((ticM l s o).2.2.1), .bool ((ticM l s o).2.2.2)] 120, .vec oac occ 1 (bys blc) 5, .vec oad ocd 1 (bys bld) 5, .vec oae oce 2 (List.flatMap fExt xse) 147, .grp (List.flatMap innExt xse)] ∧ Sub a c l ta tc (ticM l s o).2.1 ∧ (xva, xvb, blc, bld, List.map (fun y : RExt => (y.1, y.2.1.l)) xse) = (ticM l s o).1 ∧ List.length blc ≤ 4294967296 ∧ List.length bld ≤ 4294967296 ∧ List.length xse ≤ 4294967296 ∧ ∀ y ∈ xse, List.length y.2.1.l ≤ 140737488351232 := by
 refine d_0 [(0, pt br)] 22 Go.Proofs.Try.func194 Go.Proofs.Try.ntmps194 (hH) fun act0 En0 Hv0 => ?_
 refine wp_seq ?_
 refine region_from ?_
 refine f_o ?_
 refine m_z 86 [.int .u32 0, .int .u32 0, .slice none 0 0, .slice none 0 0, .slice none 0 0] En0 Hv0 fun ac2 wo3 bk1 En4 Hv5 => ?_
 refine f_e ?_
 refine then_normal ?_
 refine wp_seq ?_
 refine region_from ?_
 refine d_k [0,2,4] [] 1 En4 fun ac6 En7 => ?_
 refine f_o ?_
 refine c_l [0] (M := [.box br [.slice a (List.length l) c, .bool s, .bool o] 120]) En7 Hv5 (fun hM11 => number_go _ br 4 (by omega) a c l s o ((i.ev Hv5).pick [0] (by kernel_rfl)) hM11) ?_
 rintro _ wo12 ⟨ta8, tc9, rfl, he13, hs10⟩
 refine ⟨_, _, [.box br [.slice ta8 (List.length (tkR 4 l s)) tc9, .bool (tkS 4 l s), .bool o] 120, .box bk1 [.int .u32 0, .int .u32 0, .slice none 0 0, .slice none 0 0, .slice none 0 0] 86], rfl, he13, by kernel_rfl, fun ac15 En16 Hv17 => ?_⟩
 refine d_k [0,2,7] [(2, g_i .u32 (Go.Dbr.nat_to_u32 (a := ((nbV 4 l s : Nat) : Int)) (n := nbV 4 l s) rfl))] 4 En16 fun ac18 En19 => ?_
 refine f_o ?_
 refine m_z 86 [.int .u32 0, .int .u32 0, .slice none 0 0, .slice none 0 0, .slice none 0 0] En19 Hv17 fun ac21 wo22 bk20 En23 Hv24 => ?_
 refine f_o ?_
 refine m_g 2 0 5 [.int .u32 ((UInt32.toNat (UInt32.ofNat (nbV 4 l s)) : Nat) : Int), .int .u32 0, .slice none 0 0, .slice none 0 0, .slice none 0 0] [.int .u32 ((UInt32.toNat (UInt32.ofNat (nbV 4 l s)) : Nat) : Int), .int .u32 0, .slice none 0 0, .slice none 0 0, .slice none 0 0] [.box br [.slice ta8 (List.length (tkR 4 l s)) tc9, .bool (tkS 4 l s), .bool o] 120, .box bk1 [.int .u32 0, .int .u32 0, .slice none 0 0, .slice none 0 0, .slice none 0 0] 86, .box bk20 [.int .u32 ((UInt32.toNat (UInt32.ofNat (nbV 4 l s)) : Nat) : Int), .int .u32 0, .slice none 0 0, .slice none 0 0, .slice none 0 0] 86] En23 Hv24 rfl rfl (by simp) (one_all (by kernel_rfl)) rfl rfl fun ac25 wo26 En27 Hv28 => ?_
 refine f_e ?_
 refine then_normal ?_
 refine wp_seq ?_
 refine region_from ?_
 refine d_k [0,2,3,8] [] 1 En27 fun ac29 En30 => ?_
 refine f_o ?_
 refine c_l [0] (M := [.box br [.slice ta8 (List.length (tkR 4 l s)) tc9, .bool (tkS 4 l s), .bool o] 120]) En30 Hv28 (fun hM34 => number_go _ br 4 (by omega) ta8 tc9 (tkR 4 l s) (tkS 4 l s) o (hs10 _ _ ((i.ev Hv28).pick [0] (by kernel_rfl))) hM34) ?_
 rintro _ wo35 ⟨ta31, tc32, rfl, he36, hs33⟩
 refine ⟨_, _, [.box br [.slice ta31 (List.length (tkR 4 (tkR 4 l s) (tkS 4 l s))) tc32, .bool (tkS 4 (tkR 4 l s) (tkS 4 l s)), .bool o] 120, .box bk1 [.int .u32 0, .int .u32 0, .slice none 0 0, .slice none 0 0, .slice none 0 0] 86, .box bk20 [.int .u32 ((UInt32.toNat (UInt32.ofNat (nbV 4 l s)) : Nat) : Int), .int .u32 0, .slice none 0 0, .slice none 0 0, .slice none 0 0] 86], rfl, he36, by kernel_rfl, fun ac38 En39 Hv40 => ?_⟩
 refine d_k [0,2,3,10,11] [(2, g_i .u32 (Go.Dbr.nat_to_u32 (a := ((nbV 4 (tkR 4 l s) (tkS 4 l s) : Nat) : Int)) (n := nbV 4 (tkR 4 l s) (tkS 4 l s)) rfl))] 4 En39 fun ac41 En42 => ?_
 refine f_o ?_
 refine m_s 2 [.box br [.slice ta31 (List.length (tkR 4 (tkR 4 l s) (tkS 4 l s))) tc32, .bool (tkS 4 (tkR 4 l s) (tkS 4 l s)), .bool o] 120, .box bk1 [.int .u32 0, .int .u32 0, .slice none 0 0, .slice none 0 0, .slice none 0 0] 86, .box bk20 [.int .u32 ((UInt32.toNat (UInt32.ofNat (nbV 4 l s)) : Nat) : Int), .int .u32 ((UInt32.toNat (UInt32.ofNat (nbV 4 (tkR 4 l s) (tkS 4 l s))) : Nat) : Int), .slice none 0 0, .slice none 0 0, .slice none 0 0] 86] En42 Hv40 fun ac43 wo44 En45 Hv46 => ?_
 refine f_e ?_
 refine then_normal ?_
 refine wp_seq ?_
 refine region_from ?_
 refine d_k [0,2,3,12] [] 1 En45 fun ac47 En48 => ?_
 refine f_o ?_
 refine c_l [0] (M := [.box br [.slice ta31 (List.length (tkR 4 (tkR 4 l s) (tkS 4 l s))) tc32, .bool (tkS 4 (tkR 4 l s) (tkS 4 l s)), .bool o] 120]) En48 Hv46 (fun hM54 => list_go _ br 1 (by omega) 0 255 (by omega) (by omega) ta31 tc32 (tkR 4 (tkR 4 l s) (tkS 4 l s)) (tkS 4 (tkR 4 l s) (tkS 4 l s)) o (hs33 _ _ (hs10 _ _ ((i.ev Hv46).pick [0] (by kernel_rfl)))) hM54) ?_
 rintro _ wo55 ⟨ao49, cp50, ta51, tc52, rfl, he56, hs53⟩
 refine ⟨_, _, [.box br [.slice ta51 (List.length (lsR 1 0 255 (tkR 4 (tkR 4 l s) (tkS 4 l s)) (tkS 4 (tkR 4 l s) (tkS 4 l s)))) tc52, .bool (lsS 1 0 255 (tkR 4 (tkR 4 l s) (tkS 4 l s)) (tkS 4 (tkR 4 l s) (tkS 4 l s))), .bool o] 120, .vec ao49 cp50 1 (bys (lsO 1 0 255 (tkR 4 (tkR 4 l s) (tkS 4 l s)) (tkS 4 (tkR 4 l s) (tkS 4 l s)))) 5, .box bk1 [.int .u32 0, .int .u32 0, .slice none 0 0, .slice none 0 0, .slice none 0 0] 86, .box bk20 [.int .u32 ((UInt32.toNat (UInt32.ofNat (nbV 4 l s)) : Nat) : Int), .int .u32 ((UInt32.toNat (UInt32.ofNat (nbV 4 (tkR 4 l s) (tkS 4 l s))) : Nat) : Int), .slice none 0 0, .slice none 0 0, .slice none 0 0] 86], rfl, he56, by kernel_rfl, fun ac58 En59 Hv60 => ?_⟩
 refine d_k [0,2,3,13,14] [] 3 En59 fun ac61 En62 => ?_
 refine f_o ?_
 refine m_s 3 [.box br [.slice ta51 (List.length (lsR 1 0 255 (tkR 4 (tkR 4 l s) (tkS 4 l s)) (tkS 4 (tkR 4 l s) (tkS 4 l s)))) tc52, .bool (lsS 1 0 255 (tkR 4 (tkR 4 l s) (tkS 4 l s)) (tkS 4 (tkR 4 l s) (tkS 4 l s))), .bool o] 120, .vec ao49 cp50 1 (bys (lsO 1 0 255 (tkR 4 (tkR 4 l s) (tkS 4 l s)) (tkS 4 (tkR 4 l s) (tkS 4 l s)))) 5, .box bk1 [.int .u32 0, .int .u32 0, .slice none 0 0, .slice none 0 0, .slice none 0 0] 86, .box bk20 [.int .u32 ((UInt32.toNat (UInt32.ofNat (nbV 4 l s)) : Nat) : Int), .int .u32 ((UInt32.toNat (UInt32.ofNat (nbV 4 (tkR 4 l s) (tkS 4 l s))) : Nat) : Int), .slice ao49 (List.length (lsO 1 0 255 (tkR 4 (tkR 4 l s) (tkS 4 l s)) (tkS 4 (tkR 4 l s) (tkS 4 l s)))) cp50, .slice none 0 0, .slice none 0 0] 86] En62 Hv60 fun ac63 wo64 En65 Hv66 => ?_
 refine f_e ?_
 refine then_normal ?_
 refine wp_seq ?_
 refine region_from ?_
 refine d_k [0,2,3,15] [] 1 En65 fun ac67 En68 => ?_
 refine f_o ?_
 refine c_l [0] (M := [.box br [.slice ta51 (List.length (lsR 1 0 255 (tkR 4 (tkR 4 l s) (tkS 4 l s)) (tkS 4 (tkR 4 l s) (tkS 4 l s)))) tc52, .bool (lsS 1 0 255 (tkR 4 (tkR 4 l s) (tkS 4 l s)) (tkS 4 (tkR 4 l s) (tkS 4 l s))), .bool o] 120]) En68 Hv66 (fun hM76 => bytes2_go _ br ta51 tc52 (lsR 1 0 255 (tkR 4 (tkR 4 l s) (tkS 4 l s)) (tkS 4 (tkR 4 l s) (tkS 4 l s))) (lsS 1 0 255 (tkR 4 (tkR 4 l s) (tkS 4 l s)) (tkS 4 (tkR 4 l s) (tkS 4 l s))) o (hs53 _ _ (hs33 _ _ (hs10 _ _ ((i.ev Hv66).pick [0] (by kernel_rfl))))) hM76) ?_
 rintro _ wo77 ⟨ta69, tc70, oa73, oc74, bl75, rfl, he78, hs71, hpu72⟩
 refine ⟨_, _, [.box br [.slice ta69 (List.length ((listM 2 1 65535 (lsR 1 0 255 (tkR 4 (tkR 4 l s) (tkS 4 l s)) (tkS 4 (tkR 4 l s) (tkS 4 l s))) (lsS 1 0 255 (tkR 4 (tkR 4 l s) (tkS 4 l s)) (tkS 4 (tkR 4 l s) (tkS 4 l s))) o).2.1)) tc70, .bool ((listM 2 1 65535 (lsR 1 0 255 (tkR 4 (tkR 4 l s) (tkS 4 l s)) (tkS 4 (tkR 4 l s) (tkS 4 l s))) (lsS 1 0 255 (tkR 4 (tkR 4 l s) (tkS 4 l s)) (tkS 4 (tkR 4 l s) (tkS 4 l s))) o).2.2.1), .bool ((listM 2 1 65535 (lsR 1 0 255 (tkR 4 (tkR 4 l s) (tkS 4 l s)) (tkS 4 (tkR 4 l s) (tkS 4 l s))) (lsS 1 0 255 (tkR 4 (tkR 4 l s) (tkS 4 l s)) (tkS 4 (tkR 4 l s) (tkS 4 l s))) o).2.2.2)] 120, .vec oa73 oc74 1 (bys bl75) 5, .vec ao49 cp50 1 (bys (lsO 1 0 255 (tkR 4 (tkR 4 l s) (tkS 4 l s)) (tkS 4 (tkR 4 l s) (tkS 4 l s)))) 5, .box bk1 [.int .u32 0, .int .u32 0, .slice none 0 0, .slice none 0 0, .slice none 0 0] 86, .box bk20 [.int .u32 ((UInt32.toNat (UInt32.ofNat (nbV 4 l s)) : Nat) : Int), .int .u32 ((UInt32.toNat (UInt32.ofNat (nbV 4 (tkR 4 l s) (tkS 4 l s))) : Nat) : Int), .slice ao49 (List.length (lsO 1 0 255 (tkR 4 (tkR 4 l s) (tkS 4 l s)) (tkS 4 (tkR 4 l s) (tkS 4 l s)))) cp50, .slice none 0 0, .slice none 0 0] 86], rfl, he78, by kernel_rfl, fun ac80 En81 Hv82 => ?_⟩
 refine d_k [0,2,3,16,17] [] 3 En81 fun ac83 En84 => ?_
 refine f_o ?_
 refine m_s 4 [.box br [.slice ta69 (List.length ((listM 2 1 65535 (lsR 1 0 255 (tkR 4 (tkR 4 l s) (tkS 4 l s)) (tkS 4 (tkR 4 l s) (tkS 4 l s))) (lsS 1 0 255 (tkR 4 (tkR 4 l s) (tkS 4 l s)) (tkS 4 (tkR 4 l s) (tkS 4 l s))) o).2.1)) tc70, .bool ((listM 2 1 65535 (lsR 1 0 255 (tkR 4 (tkR 4 l s) (tkS 4 l s)) (tkS 4 (tkR 4 l s) (tkS 4 l s))) (lsS 1 0 255 (tkR 4 (tkR 4 l s) (tkS 4 l s)) (tkS 4 (tkR 4 l s) (tkS 4 l s))) o).2.2.1), .bool ((listM 2 1 65535 (lsR 1 0 255 (tkR 4 (tkR 4 l s) (tkS 4 l s)) (tkS 4 (tkR 4 l s) (tkS 4 l s))) (lsS 1 0 255 (tkR 4 (tkR 4 l s) (tkS 4 l s)) (tkS 4 (tkR 4 l s) (tkS 4 l s))) o).2.2.2)] 120, .vec oa73 oc74 1 (bys bl75) 5, .vec ao49 cp50 1 (bys (lsO 1 0 255 (tkR 4 (tkR 4 l s) (tkS 4 l s)) (tkS 4 (tkR 4 l s) (tkS 4 l s)))) 5, .box bk1 [.int .u32 0, .int .u32 0, .slice none 0 0, .slice none 0 0, .slice none 0 0] 86, .box bk20 [.int .u32 ((UInt32.toNat (UInt32.ofNat (nbV 4 l s)) : Nat) : Int), .int .u32 ((UInt32.toNat (UInt32.ofNat (nbV 4 (tkR 4 l s) (tkS 4 l s))) : Nat) : Int), .slice ao49 (List.length (lsO 1 0 255 (tkR 4 (tkR 4 l s) (tkS 4 l s)) (tkS 4 (tkR 4 l s) (tkS 4 l s)))) cp50, .slice oa73 (List.length bl75) oc74, .slice none 0 0] 86] En84 Hv82 fun ac85 wo86 En87 Hv88 => ?_
 refine f_e ?_
 refine then_normal ?_
 refine wp_seq ?_
 refine region_from ?_
 refine d_k [0,2,3,18] [] 1 En87 fun ac89 En90 => ?_
 refine f_o ?_
 refine c_l [0] (M := [.box br [.slice ta69 (List.length ((listM 2 1 65535 (lsR 1 0 255 (tkR 4 (tkR 4 l s) (tkS 4 l s)) (tkS 4 (tkR 4 l s) (tkS 4 l s))) (lsS 1 0 255 (tkR 4 (tkR 4 l s) (tkS 4 l s)) (tkS 4 (tkR 4 l s) (tkS 4 l s))) o).2.1)) tc70, .bool ((listM 2 1 65535 (lsR 1 0 255 (tkR 4 (tkR 4 l s) (tkS 4 l s)) (tkS 4 (tkR 4 l s) (tkS 4 l s))) (lsS 1 0 255 (tkR 4 (tkR 4 l s) (tkS 4 l s)) (tkS 4 (tkR 4 l s) (tkS 4 l s))) o).2.2.1), .bool ((listM 2 1 65535 (lsR 1 0 255 (tkR 4 (tkR 4 l s) (tkS 4 l s)) (tkS 4 (tkR 4 l s) (tkS 4 l s))) (lsS 1 0 255 (tkR 4 (tkR 4 l s) (tkS 4 l s)) (tkS 4 (tkR 4 l s) (tkS 4 l s))) o).2.2.2)] 120]) En90 Hv88 (fun hM100 => exts_go _ br ta69 tc70 ((listM 2 1 65535 (lsR 1 0 255 (tkR 4 (tkR 4 l s) (tkS 4 l s)) (tkS 4 (tkR 4 l s) (tkS 4 l s))) (lsS 1 0 255 (tkR 4 (tkR 4 l s) (tkS 4 l s)) (tkS 4 (tkR 4 l s) (tkS 4 l s))) o).2.1) ((listM 2 1 65535 (lsR 1 0 255 (tkR 4 (tkR 4 l s) (tkS 4 l s)) (tkS 4 (tkR 4 l s) (tkS 4 l s))) (lsS 1 0 255 (tkR 4 (tkR 4 l s) (tkS 4 l s)) (tkS 4 (tkR 4 l s) (tkS 4 l s))) o).2.2.1) ((listM 2 1 65535 (lsR 1 0 255 (tkR 4 (tkR 4 l s) (tkS 4 l s)) (tkS 4 (tkR 4 l s) (tkS 4 l s))) (lsS 1 0 255 (tkR 4 (tkR 4 l s) (tkS 4 l s)) (tkS 4 (tkR 4 l s) (tkS 4 l s))) o).2.2.2) (hs71 _ _ (hs53 _ _ (hs33 _ _ (hs10 _ _ ((i.ev Hv88).pick [0] (by kernel_rfl)))))) hM100) ?_
 rintro _ wo101 ⟨ta91, tc92, oa95, oc96, xs97, rfl, he102, hs93, hpu94, hf98, hf99⟩
 refine ⟨_, _, [.box br [.slice ta91 (List.length ((extsM ((listM 2 1 65535 (lsR 1 0 255 (tkR 4 (tkR 4 l s) (tkS 4 l s)) (tkS 4 (tkR 4 l s) (tkS 4 l s))) (lsS 1 0 255 (tkR 4 (tkR 4 l s) (tkS 4 l s)) (tkS 4 (tkR 4 l s) (tkS 4 l s))) o).2.1) ((listM 2 1 65535 (lsR 1 0 255 (tkR 4 (tkR 4 l s) (tkS 4 l s)) (tkS 4 (tkR 4 l s) (tkS 4 l s))) (lsS 1 0 255 (tkR 4 (tkR 4 l s) (tkS 4 l s)) (tkS 4 (tkR 4 l s) (tkS 4 l s))) o).2.2.1) ((listM 2 1 65535 (lsR 1 0 255 (tkR 4 (tkR 4 l s) (tkS 4 l s)) (tkS 4 (tkR 4 l s) (tkS 4 l s))) (lsS 1 0 255 (tkR 4 (tkR 4 l s) (tkS 4 l s)) (tkS 4 (tkR 4 l s) (tkS 4 l s))) o).2.2.2)).2.1)) tc92, .bool ((extsM ((listM 2 1 65535 (lsR 1 0 255 (tkR 4 (tkR 4 l s) (tkS 4 l s)) (tkS 4 (tkR 4 l s) (tkS 4 l s))) (lsS 1 0 255 (tkR 4 (tkR 4 l s) (tkS 4 l s)) (tkS 4 (tkR 4 l s) (tkS 4 l s))) o).2.1) ((listM 2 1 65535 (lsR 1 0 255 (tkR 4 (tkR 4 l s) (tkS 4 l s)) (tkS 4 (tkR 4 l s) (tkS 4 l s))) (lsS 1 0 255 (tkR 4 (tkR 4 l s) (tkS 4 l s)) (tkS 4 (tkR 4 l s) (tkS 4 l s))) o).2.2.1) ((listM 2 1 65535 (lsR 1 0 255 (tkR 4 (tkR 4 l s) (tkS 4 l s)) (tkS 4 (tkR 4 l s) (tkS 4 l s))) (lsS 1 0 255 (tkR 4 (tkR 4 l s) (tkS 4 l s)) (tkS 4 (tkR 4 l s) (tkS 4 l s))) o).2.2.2)).2.2.1), .bool ((extsM ((listM 2 1 65535 (lsR 1 0 255 (tkR 4 (tkR 4 l s) (tkS 4 l s)) (tkS 4 (tkR 4 l s) (tkS 4 l s))) (lsS 1 0 255 (tkR 4 (tkR 4 l s) (tkS 4 l s)) (tkS 4 (tkR 4 l s) (tkS 4 l s))) o).2.1) ((listM 2 1 65535 (lsR 1 0 255 (tkR 4 (tkR 4 l s) (tkS 4 l s)) (tkS 4 (tkR 4 l s) (tkS 4 l s))) (lsS 1 0 255 (tkR 4 (tkR 4 l s) (tkS 4 l s)) (tkS 4 (tkR 4 l s) (tkS 4 l s))) o).2.2.1) ((listM 2 1 65535 (lsR 1 0 255 (tkR 4 (tkR 4 l s) (tkS 4 l s)) (tkS 4 (tkR 4 l s) (tkS 4 l s))) (lsS 1 0 255 (tkR 4 (tkR 4 l s) (tkS 4 l s)) (tkS 4 (tkR 4 l s) (tkS 4 l s))) o).2.2.2)).2.2.2)] 120, .vec oa95 oc96 2 (List.flatMap fExt xs97) 147, .grp (List.flatMap innExt xs97), .vec oa73 oc74 1 (bys bl75) 5, .vec ao49 cp50 1 (bys (lsO 1 0 255 (tkR 4 (tkR 4 l s) (tkS 4 l s)) (tkS 4 (tkR 4 l s) (tkS 4 l s)))) 5, .box bk1 [.int .u32 0, .int .u32 0, .slice none 0 0, .slice none 0 0, .slice none 0 0] 86, .box bk20 [.int .u32 ((UInt32.toNat (UInt32.ofNat (nbV 4 l s)) : Nat) : Int), .int .u32 ((UInt32.toNat (UInt32.ofNat (nbV 4 (tkR 4 l s) (tkS 4 l s))) : Nat) : Int), .slice ao49 (List.length (lsO 1 0 255 (tkR 4 (tkR 4 l s) (tkS 4 l s)) (tkS 4 (tkR 4 l s) (tkS 4 l s)))) cp50, .slice oa73 (List.length bl75) oc74, .slice none 0 0] 86], rfl, he102, by kernel_rfl, fun ac104 En105 Hv106 => ?_⟩
 refine d_k [0,2,3,19,20] [] 3 En105 fun ac107 En108 => ?_
 refine f_o ?_
 refine m_s 6 [.box br [.slice ta91 (List.length ((extsM ((listM 2 1 65535 (lsR 1 0 255 (tkR 4 (tkR 4 l s) (tkS 4 l s)) (tkS 4 (tkR 4 l s) (tkS 4 l s))) (lsS 1 0 255 (tkR 4 (tkR 4 l s) (tkS 4 l s)) (tkS 4 (tkR 4 l s) (tkS 4 l s))) o).2.1) ((listM 2 1 65535 (lsR 1 0 255 (tkR 4 (tkR 4 l s) (tkS 4 l s)) (tkS 4 (tkR 4 l s) (tkS 4 l s))) (lsS 1 0 255 (tkR 4 (tkR 4 l s) (tkS 4 l s)) (tkS 4 (tkR 4 l s) (tkS 4 l s))) o).2.2.1) ((listM 2 1 65535 (lsR 1 0 255 (tkR 4 (tkR 4 l s) (tkS 4 l s)) (tkS 4 (tkR 4 l s) (tkS 4 l s))) (lsS 1 0 255 (tkR 4 (tkR 4 l s) (tkS 4 l s)) (tkS 4 (tkR 4 l s) (tkS 4 l s))) o).2.2.2)).2.1)) tc92, .bool ((extsM ((listM 2 1 65535 (lsR 1 0 255 (tkR 4 (tkR 4 l s) (tkS 4 l s)) (tkS 4 (tkR 4 l s) (tkS 4 l s))) (lsS 1 0 255 (tkR 4 (tkR 4 l s) (tkS 4 l s)) (tkS 4 (tkR 4 l s) (tkS 4 l s))) o).2.1) ((listM 2 1 65535 (lsR 1 0 255 (tkR 4 (tkR 4 l s) (tkS 4 l s)) (tkS 4 (tkR 4 l s) (tkS 4 l s))) (lsS 1 0 255 (tkR 4 (tkR 4 l s) (tkS 4 l s)) (tkS 4 (tkR 4 l s) (tkS 4 l s))) o).2.2.1) ((listM 2 1 65535 (lsR 1 0 255 (tkR 4 (tkR 4 l s) (tkS 4 l s)) (tkS 4 (tkR 4 l s) (tkS 4 l s))) (lsS 1 0 255 (tkR 4 (tkR 4 l s) (tkS 4 l s)) (tkS 4 (tkR 4 l s) (tkS 4 l s))) o).2.2.2)).2.2.1), .bool ((extsM ((listM 2 1 65535 (lsR 1 0 255 (tkR 4 (tkR 4 l s) (tkS 4 l s)) (tkS 4 (tkR 4 l s) (tkS 4 l s))) (lsS 1 0 255 (tkR 4 (tkR 4 l s) (tkS 4 l s)) (tkS 4 (tkR 4 l s) (tkS 4 l s))) o).2.1) ((listM 2 1 65535 (lsR 1 0 255 (tkR 4 (tkR 4 l s) (tkS 4 l s)) (tkS 4 (tkR 4 l s) (tkS 4 l s))) (lsS 1 0 255 (tkR 4 (tkR 4 l s) (tkS 4 l s)) (tkS 4 (tkR 4 l s) (tkS 4 l s))) o).2.2.1) ((listM 2 1 65535 (lsR 1 0 255 (tkR 4 (tkR 4 l s) (tkS 4 l s)) (tkS 4 (tkR 4 l s) (tkS 4 l s))) (lsS 1 0 255 (tkR 4 (tkR 4 l s) (tkS 4 l s)) (tkS 4 (tkR 4 l s) (tkS 4 l s))) o).2.2.2)).2.2.2)] 120, .vec oa95 oc96 2 (List.flatMap fExt xs97) 147, .grp (List.flatMap innExt xs97), .vec oa73 oc74 1 (bys bl75) 5, .vec ao49 cp50 1 (bys (lsO 1 0 255 (tkR 4 (tkR 4 l s) (tkS 4 l s)) (tkS 4 (tkR 4 l s) (tkS 4 l s)))) 5, .box bk1 [.int .u32 0, .int .u32 0, .slice none 0 0, .slice none 0 0, .slice none 0 0] 86, .box bk20 [.int .u32 ((UInt32.toNat (UInt32.ofNat (nbV 4 l s)) : Nat) : Int), .int .u32 ((UInt32.toNat (UInt32.ofNat (nbV 4 (tkR 4 l s) (tkS 4 l s))) : Nat) : Int), .slice ao49 (List.length (lsO 1 0 255 (tkR 4 (tkR 4 l s) (tkS 4 l s)) (tkS 4 (tkR 4 l s) (tkS 4 l s)))) cp50, .slice oa73 (List.length bl75) oc74, .slice oa95 (List.length xs97) oc96] 86] En108 Hv106 fun ac109 wo110 En111 Hv112 => ?_
 refine f_e ?_
 refine then_normal ?_
 refine wp_seq ?_
 refine region_from ?_
 refine f_o ?_
 refine m_a 6 0 5 [.int .u32 ((UInt32.toNat (UInt32.ofNat (nbV 4 l s)) : Nat) : Int), .int .u32 ((UInt32.toNat (UInt32.ofNat (nbV 4 (tkR 4 l s) (tkS 4 l s))) : Nat) : Int), .slice ao49 (List.length (lsO 1 0 255 (tkR 4 (tkR 4 l s) (tkS 4 l s)) (tkS 4 (tkR 4 l s) (tkS 4 l s)))) cp50, .slice oa73 (List.length bl75) oc74, .slice oa95 (List.length xs97) oc96] En111 Hv112 rfl rfl rfl fun ac113 En114 => ?_
 refine f_o ?_
 refine m_g 5 0 5 [.int .u32 ((UInt32.toNat (UInt32.ofNat (nbV 4 l s)) : Nat) : Int), .int .u32 ((UInt32.toNat (UInt32.ofNat (nbV 4 (tkR 4 l s) (tkS 4 l s))) : Nat) : Int), .slice ao49 (List.length (lsO 1 0 255 (tkR 4 (tkR 4 l s) (tkS 4 l s)) (tkS 4 (tkR 4 l s) (tkS 4 l s)))) cp50, .slice oa73 (List.length bl75) oc74, .slice oa95 (List.length xs97) oc96] [.int .u32 ((UInt32.toNat (UInt32.ofNat (nbV 4 l s)) : Nat) : Int), .int .u32 ((UInt32.toNat (UInt32.ofNat (nbV 4 (tkR 4 l s) (tkS 4 l s))) : Nat) : Int), .slice ao49 (List.length (lsO 1 0 255 (tkR 4 (tkR 4 l s) (tkS 4 l s)) (tkS 4 (tkR 4 l s) (tkS 4 l s)))) cp50, .slice oa73 (List.length bl75) oc74, .slice oa95 (List.length xs97) oc96] [.box br [.slice ta91 (List.length ((extsM ((listM 2 1 65535 (lsR 1 0 255 (tkR 4 (tkR 4 l s) (tkS 4 l s)) (tkS 4 (tkR 4 l s) (tkS 4 l s))) (lsS 1 0 255 (tkR 4 (tkR 4 l s) (tkS 4 l s)) (tkS 4 (tkR 4 l s) (tkS 4 l s))) o).2.1) ((listM 2 1 65535 (lsR 1 0 255 (tkR 4 (tkR 4 l s) (tkS 4 l s)) (tkS 4 (tkR 4 l s) (tkS 4 l s))) (lsS 1 0 255 (tkR 4 (tkR 4 l s) (tkS 4 l s)) (tkS 4 (tkR 4 l s) (tkS 4 l s))) o).2.2.1) ((listM 2 1 65535 (lsR 1 0 255 (tkR 4 (tkR 4 l s) (tkS 4 l s)) (tkS 4 (tkR 4 l s) (tkS 4 l s))) (lsS 1 0 255 (tkR 4 (tkR 4 l s) (tkS 4 l s)) (tkS 4 (tkR 4 l s) (tkS 4 l s))) o).2.2.2)).2.1)) tc92, .bool ((extsM ((listM 2 1 65535 (lsR 1 0 255 (tkR 4 (tkR 4 l s) (tkS 4 l s)) (tkS 4 (tkR 4 l s) (tkS 4 l s))) (lsS 1 0 255 (tkR 4 (tkR 4 l s) (tkS 4 l s)) (tkS 4 (tkR 4 l s) (tkS 4 l s))) o).2.1) ((listM 2 1 65535 (lsR 1 0 255 (tkR 4 (tkR 4 l s) (tkS 4 l s)) (tkS 4 (tkR 4 l s) (tkS 4 l s))) (lsS 1 0 255 (tkR 4 (tkR 4 l s) (tkS 4 l s)) (tkS 4 (tkR 4 l s) (tkS 4 l s))) o).2.2.1) ((listM 2 1 65535 (lsR 1 0 255 (tkR 4 (tkR 4 l s) (tkS 4 l s)) (tkS 4 (tkR 4 l s) (tkS 4 l s))) (lsS 1 0 255 (tkR 4 (tkR 4 l s) (tkS 4 l s)) (tkS 4 (tkR 4 l s) (tkS 4 l s))) o).2.2.2)).2.2.1), .bool ((extsM ((listM 2 1 65535 (lsR 1 0 255 (tkR 4 (tkR 4 l s) (tkS 4 l s)) (tkS 4 (tkR 4 l s) (tkS 4 l s))) (lsS 1 0 255 (tkR 4 (tkR 4 l s) (tkS 4 l s)) (tkS 4 (tkR 4 l s) (tkS 4 l s))) o).2.1) ((listM 2 1 65535 (lsR 1 0 255 (tkR 4 (tkR 4 l s) (tkS 4 l s)) (tkS 4 (tkR 4 l s) (tkS 4 l s))) (lsS 1 0 255 (tkR 4 (tkR 4 l s) (tkS 4 l s)) (tkS 4 (tkR 4 l s) (tkS 4 l s))) o).2.2.1) ((listM 2 1 65535 (lsR 1 0 255 (tkR 4 (tkR 4 l s) (tkS 4 l s)) (tkS 4 (tkR 4 l s) (tkS 4 l s))) (lsS 1 0 255 (tkR 4 (tkR 4 l s) (tkS 4 l s)) (tkS 4 (tkR 4 l s) (tkS 4 l s))) o).2.2.2)).2.2.2)] 120, .vec oa95 oc96 2 (List.flatMap fExt xs97) 147, .grp (List.flatMap innExt xs97), .vec oa73 oc74 1 (bys bl75) 5, .vec ao49 cp50 1 (bys (lsO 1 0 255 (tkR 4 (tkR 4 l s) (tkS 4 l s)) (tkS 4 (tkR 4 l s) (tkS 4 l s)))) 5, .box bk1 [.int .u32 ((UInt32.toNat (UInt32.ofNat (nbV 4 l s)) : Nat) : Int), .int .u32 ((UInt32.toNat (UInt32.ofNat (nbV 4 (tkR 4 l s) (tkS 4 l s))) : Nat) : Int), .slice ao49 (List.length (lsO 1 0 255 (tkR 4 (tkR 4 l s) (tkS 4 l s)) (tkS 4 (tkR 4 l s) (tkS 4 l s)))) cp50, .slice oa73 (List.length bl75) oc74, .slice oa95 (List.length xs97) oc96] 86, .box bk20 [.int .u32 ((UInt32.toNat (UInt32.ofNat (nbV 4 l s)) : Nat) : Int), .int .u32 ((UInt32.toNat (UInt32.ofNat (nbV 4 (tkR 4 l s) (tkS 4 l s))) : Nat) : Int), .slice ao49 (List.length (lsO 1 0 255 (tkR 4 (tkR 4 l s) (tkS 4 l s)) (tkS 4 (tkR 4 l s) (tkS 4 l s)))) cp50, .slice oa73 (List.length bl75) oc74, .slice oa95 (List.length xs97) oc96] 86] En114 Hv112 rfl rfl (by simp) (one_all (by kernel_rfl)) rfl rfl fun ac115 wo116 En117 Hv118 => ?_
 refine f_e ?_
 refine then_normal ?_
 refine wp_ret ?_
 refine d_cell1 (v := .agg #[.int .u32 ((UInt32.toNat (UInt32.ofNat (nbV 4 l s)) : Nat) : Int), .int .u32 ((UInt32.toNat (UInt32.ofNat (nbV 4 (tkR 4 l s) (tkS 4 l s))) : Nat) : Int), .slice ao49 (List.length (lsO 1 0 255 (tkR 4 (tkR 4 l s) (tkS 4 l s)) (tkS 4 (tkR 4 l s) (tkS 4 l s)))) cp50, .slice oa73 (List.length bl75) oc74, .slice oa95 (List.length xs97) oc96]) (t := 2) (T := 86) (ad := ⟨bk1, 0, none⟩) En117 (by kernel_rfl) (by kernel_rfl) (Ev.cellAgg (t := 86) (k := 5) (off := 0) (m := 5) (xs := [.int .u32 ((UInt32.toNat (UInt32.ofNat (nbV 4 l s)) : Nat) : Int), .int .u32 ((UInt32.toNat (UInt32.ofNat (nbV 4 (tkR 4 l s) (tkS 4 l s))) : Nat) : Int), .slice ao49 (List.length (lsO 1 0 255 (tkR 4 (tkR 4 l s) (tkS 4 l s)) (tkS 4 (tkR 4 l s) (tkS 4 l s)))) cp50, .slice oa73 (List.length bl75) oc74, .slice oa95 (List.length xs97) oc96]) Hv118 rfl rfl rfl (by kernel_rfl) (by kernel_rfl)) ?_
 exact ⟨ta91, tc92, (UInt32.ofNat (nbV 4 l s)), (UInt32.ofNat (nbV 4 (tkR 4 l s) (tkS 4 l s))), ao49, cp50, (lsO 1 0 255 (tkR 4 (tkR 4 l s) (tkS 4 l s)) (tkS 4 (tkR 4 l s) (tkS 4 l s))), oa73, oc74, bl75, oa95, oc96, xs97, rfl, Hv118.pk [0, 4, 3, 1, 2], ((((hs10.trans hs33).trans hs53).trans hs71).trans hs93), (by rw [hpu94, hpu72]; rfl), (Nat.le_of_succ_le (lsO_32 (by decide) _ _)), (by rw [hpu72]; exact (Nat.le_of_succ_le (lsO_32 (by decide) _ _))), hf98, hf99⟩

theorem got_gettic (w : World) (a : Option Addr) (c : Nat) (l : Bs) (i : InB w [] a c l) : Calls Try.prog 193 #[.slice a (List.length l) c, .func (.func 194) #[] #[]] w fun e w' => ∃ xva xvb oac occ blc oad ocd bld oae oce xse, e = .returned (.tuple #[.agg #[uv32 xva, uv32 xvb, .slice oac (List.length blc) occ, .slice oad (List.length bld) ocd, .slice oae (List.length xse) oce], .int .i64 (gotA (ticM l false false))]) ∧ Ev w [] w' [.vec oac occ 1 (bys blc) 5, .vec oad ocd 1 (bys bld) 5, .vec oae oce 2 (List.flatMap fExt xse) 147, .grp (List.flatMap innExt xse)] ∧ (xva, xvb, blc, bld, List.map (fun y : RExt => (y.1, y.2.1.l)) xse) = gotV (0, 0, [], [], []) (ticM l false false) ∧ List.length blc ≤ 4294967296 ∧ List.length bld ≤ 4294967296 ∧ List.length xse ≤ 4294967296 ∧ ∀ y ∈ xse, List.length y.2.1.l ≤ 140737488351232 := by
 refine d_0 [(0, .slice a (List.length l) c), (1, .func (.func 194) #[] #[])] 36 Go.Proofs.Try.func193 Go.Proofs.Try.ntmps193 (Heap.nil _) fun act0 En0 Hv0 => ?_
 refine wp_seq ?_
 refine region_from ?_
 refine f_o ?_
 refine m_z 86 [.int .u32 0, .int .u32 0, .slice none 0 0, .slice none 0 0, .slice none 0 0] En0 Hv0 fun ac2 wo3 bk1 En4 Hv5 => ?_
 refine d_e [0,1,4,5] [] En4 fun ac6 En7 => ?_
 refine then_normal ?_
 refine wp_seq ?_
 refine region_from ?_
 refine f_o ?_
 refine m_z 86 [.int .u32 0, .int .u32 0, .slice none 0 0, .slice none 0 0, .slice none 0 0] En7 Hv5 fun ac9 wo10 bk8 En11 Hv12 => ?_
 refine f_e ?_
 refine then_normal ?_
 refine wp_seq ?_
 refine region_from ?_
 refine d_k [1,4,5,6,10] [] 2 En11 fun ac13 En14 => ?_
 refine f_o ?_
 refine m_m 120 [.slice a (List.length l) c, .bool false, .bool false] En14 Hv12 fun ac16 wo17 bk15 En18 Hv19 => ?_
 refine d_e [1,4,5,6,7] [] En18 fun ac20 En21 => ?_
 refine then_normal ?_
 refine wp_seq ?_
 refine region_from ?_
 refine d_k [4,5,6,7,12,13] [] 2 En21 fun ac22 En23 => ?_
 refine f_o ?_
 refine c_l [2] (M := [.box bk15 [.slice a (List.length l) c, .bool false, .bool false] 120]) En23 Hv19 (fun hM43 => gettic1 _ bk15 a c l false false ((i.ev Hv19).pick [2] (by kernel_rfl)) hM43) ?_
 rintro _ wo44 ⟨ta24, tc25, xva28, xvb29, oac30, occ31, blc32, oad33, ocd34, bld35, oae36, oce37, xse38, rfl, he45, hs26, hpu27, hf39, hf40, hf41, hf42⟩
 refine ⟨_, _, [.box bk15 [.slice ta24 (List.length ((ticM l false false).2.1)) tc25, .bool ((ticM l false false).2.2.1), .bool ((ticM l false false).2.2.2)] 120, .vec oac30 occ31 1 (bys blc32) 5, .vec oad33 ocd34 1 (bys bld35) 5, .vec oae36 oce37 2 (List.flatMap fExt xse38) 147, .grp (List.flatMap innExt xse38), .box bk1 [.int .u32 0, .int .u32 0, .slice none 0 0, .slice none 0 0, .slice none 0 0] 86, .box bk8 [.int .u32 0, .int .u32 0, .slice none 0 0, .slice none 0 0, .slice none 0 0] 86], rfl, he45, by kernel_rfl, fun ac47 En48 Hv49 => ?_⟩
 refine f_o ?_
 refine m_z 86 [.int .u32 0, .int .u32 0, .slice none 0 0, .slice none 0 0, .slice none 0 0] En48 Hv49 fun ac51 wo52 bk50 En53 Hv54 => ?_
 refine f_o ?_
 refine m_g 7 0 5 [uv32 xva28, uv32 xvb29, .slice oac30 (List.length blc32) occ31, .slice oad33 (List.length bld35) ocd34, .slice oae36 (List.length xse38) oce37] [uv32 xva28, uv32 xvb29, .slice oac30 (List.length blc32) occ31, .slice oad33 (List.length bld35) ocd34, .slice oae36 (List.length xse38) oce37] [.box bk15 [.slice ta24 (List.length ((ticM l false false).2.1)) tc25, .bool ((ticM l false false).2.2.1), .bool ((ticM l false false).2.2.2)] 120, .vec oac30 occ31 1 (bys blc32) 5, .vec oad33 ocd34 1 (bys bld35) 5, .vec oae36 oce37 2 (List.flatMap fExt xse38) 147, .grp (List.flatMap innExt xse38), .box bk1 [.int .u32 0, .int .u32 0, .slice none 0 0, .slice none 0 0, .slice none 0 0] 86, .box bk8 [.int .u32 0, .int .u32 0, .slice none 0 0, .slice none 0 0, .slice none 0 0] 86, .box bk50 [uv32 xva28, uv32 xvb29, .slice oac30 (List.length blc32) occ31, .slice oad33 (List.length bld35) ocd34, .slice oae36 (List.length xse38) oce37] 86] En53 Hv54 rfl rfl (by simp) (one_all (by kernel_rfl)) rfl rfl fun ac55 wo56 En57 Hv58 => ?_
 refine f_e ?_
 refine then_normal ?_
 refine wp_seq ?_
 refine wp_block ?_
 refine wp_seq ?_
 refine region_from ?_
 refine d_k [4,5,6,7,8,18] [] 3 En57 fun ac59 En60 => ?_
 refine f_o ?_
 refine m_l 0 En60 Hv58 fun ac61 En62 => ?_
 refine d_k [4,5,6,7,8,20] [] 5 En62 fun ac63 En64 => ?_
 rcases Bool.eq_false_or_eq_true ((ticM l false false).2.2.1) with hb65 | hb65
 ·
  have En66 := En64.fx (t := 20) (congrArg Value.bool hb65)
  have hp67 : (ticM l false false).2.2.1 = true := hb65
  refine d_e [4,5,6,7,8,15] [] En66 fun ac68 En69 => ?_
  refine then_normal ?_
  refine c_t En69 ?_
  refine wp_seq ?_
  refine region_from ?_
  refine f_o ?_
  refine m_a 6 0 5 [.int .u32 0, .int .u32 0, .slice none 0 0, .slice none 0 0, .slice none 0 0] En69 Hv58 rfl rfl rfl fun ac70 En71 => ?_
  refine f_o ?_
  refine m_g 5 0 5 [.int .u32 0, .int .u32 0, .slice none 0 0, .slice none 0 0, .slice none 0 0] [.int .u32 0, .int .u32 0, .slice none 0 0, .slice none 0 0, .slice none 0 0] [.box bk15 [.slice ta24 (List.length ((ticM l false false).2.1)) tc25, .bool ((ticM l false false).2.2.1), .bool ((ticM l false false).2.2.2)] 120, .vec oac30 occ31 1 (bys blc32) 5, .vec oad33 ocd34 1 (bys bld35) 5, .vec oae36 oce37 2 (List.flatMap fExt xse38) 147, .grp (List.flatMap innExt xse38), .box bk1 [.int .u32 0, .int .u32 0, .slice none 0 0, .slice none 0 0, .slice none 0 0] 86, .box bk8 [.int .u32 0, .int .u32 0, .slice none 0 0, .slice none 0 0, .slice none 0 0] 86, .box bk50 [uv32 xva28, uv32 xvb29, .slice oac30 (List.length blc32) occ31, .slice oad33 (List.length bld35) ocd34, .slice oae36 (List.length xse38) oce37] 86] En71 Hv58 rfl rfl (by simp) (one_all (by kernel_rfl)) rfl rfl fun ac72 wo73 En74 Hv75 => ?_
  refine d_e [4,5,6,7,8] [] En74 fun ac76 En77 => ?_
  refine then_normal ?_
  refine wp_ret ?_
  refine block_ret ?_
  refine then_ret ?_
  refine d_cell_tmp (v := .agg #[.int .u32 0, .int .u32 0, .slice none 0 0, .slice none 0 0, .slice none 0 0]) (x := .int .i64 50) (t := 4) (T := 86) (ad := ⟨bk1, 0, none⟩) (u := 5) En77 (by kernel_rfl) (by kernel_rfl) (Ev.cellAgg (t := 86) (k := 5) (off := 0) (m := 5) (xs := [.int .u32 0, .int .u32 0, .slice none 0 0, .slice none 0 0, .slice none 0 0]) Hv75 rfl rfl rfl (by kernel_rfl) (by kernel_rfl)) (by kernel_rfl) ?_
  have eA : gotA (ticM l false false) = 50 := Eq.symm (by first | exact end_1 (by assumption) | exact end_2 (by omega) | exact end_3 (by assumption) (by omega) (by assumption))
  rw [gotV_n eA (by decide), eA]
  have Hv78 : Ev w [] wo73 [.box bk15 [.slice ta24 (List.length ((ticM l false false).2.1)) tc25, .bool ((ticM l false false).2.2.1), .bool ((ticM l false false).2.2.2)] 120, .vec oac30 occ31 1 (bys blc32) 5, .vec oad33 ocd34 1 (bys bld35) 5, .vec oae36 oce37 2 (List.flatMap fExt xse38) 147, .grp (List.flatMap innExt xse38), .box bk1 [.int .u32 0, .int .u32 0, .slice none 0 0, .slice none 0 0, .slice none 0 0] 86, .box bk8 [.int .u32 0, .int .u32 0, .slice none 0 0, .slice none 0 0, .slice none 0 0] 86, .box bk50 [uv32 xva28, uv32 xvb29, .slice oac30 (List.length blc32) occ31, .slice oad33 (List.length bld35) ocd34, .slice oae36 (List.length xse38) oce37] 86, .vec none 0 1 (bys []) 5] := Ev.nil (sz := 1) (T := 5) Hv75
  have Hv79 : Ev w [] wo73 [.box bk15 [.slice ta24 (List.length ((ticM l false false).2.1)) tc25, .bool ((ticM l false false).2.2.1), .bool ((ticM l false false).2.2.2)] 120, .vec oac30 occ31 1 (bys blc32) 5, .vec oad33 ocd34 1 (bys bld35) 5, .vec oae36 oce37 2 (List.flatMap fExt xse38) 147, .grp (List.flatMap innExt xse38), .box bk1 [.int .u32 0, .int .u32 0, .slice none 0 0, .slice none 0 0, .slice none 0 0] 86, .box bk8 [.int .u32 0, .int .u32 0, .slice none 0 0, .slice none 0 0, .slice none 0 0] 86, .box bk50 [uv32 xva28, uv32 xvb29, .slice oac30 (List.length blc32) occ31, .slice oad33 (List.length bld35) ocd34, .slice oae36 (List.length xse38) oce37] 86, .vec none 0 1 (bys []) 5, .vec none 0 1 (bys []) 5] := Ev.nil (sz := 1) (T := 5) Hv78
  have Hv80 : Ev w [] wo73 [.box bk15 [.slice ta24 (List.length ((ticM l false false).2.1)) tc25, .bool ((ticM l false false).2.2.1), .bool ((ticM l false false).2.2.2)] 120, .vec oac30 occ31 1 (bys blc32) 5, .vec oad33 ocd34 1 (bys bld35) 5, .vec oae36 oce37 2 (List.flatMap fExt xse38) 147, .grp (List.flatMap innExt xse38), .box bk1 [.int .u32 0, .int .u32 0, .slice none 0 0, .slice none 0 0, .slice none 0 0] 86, .box bk8 [.int .u32 0, .int .u32 0, .slice none 0 0, .slice none 0 0, .slice none 0 0] 86, .box bk50 [uv32 xva28, uv32 xvb29, .slice oac30 (List.length blc32) occ31, .slice oad33 (List.length bld35) ocd34, .slice oae36 (List.length xse38) oce37] 86, .vec none 0 1 (bys []) 5, .vec none 0 1 (bys []) 5, .vec none 0 2 (List.flatMap fExt []) 147] := Ev.nil (sz := 2) (T := 147) Hv79
  have Hv81 : Ev w [] wo73 [.box bk15 [.slice ta24 (List.length ((ticM l false false).2.1)) tc25, .bool ((ticM l false false).2.2.1), .bool ((ticM l false false).2.2.2)] 120, .vec oac30 occ31 1 (bys blc32) 5, .vec oad33 ocd34 1 (bys bld35) 5, .vec oae36 oce37 2 (List.flatMap fExt xse38) 147, .grp (List.flatMap innExt xse38), .box bk1 [.int .u32 0, .int .u32 0, .slice none 0 0, .slice none 0 0, .slice none 0 0] 86, .box bk8 [.int .u32 0, .int .u32 0, .slice none 0 0, .slice none 0 0, .slice none 0 0] 86, .box bk50 [uv32 xva28, uv32 xvb29, .slice oac30 (List.length blc32) occ31, .slice oad33 (List.length bld35) ocd34, .slice oae36 (List.length xse38) oce37] 86, .vec none 0 1 (bys []) 5, .vec none 0 1 (bys []) 5, .vec none 0 2 (List.flatMap fExt []) 147, .grp (List.flatMap innExt [])] := Ev.grp0 Hv80
  exact ⟨0, 0, none, 0, [], none, 0, [], none, 0, [], rfl, Hv81.pk [8, 9, 10, 11], rfl, (Nat.zero_le _), (Nat.zero_le _), (Nat.zero_le _), (fun y hy => by cases hy)⟩
 ·
  have En82 := En64.fx (t := 20) (congrArg Value.bool hb65)
  have hp83 : ¬ ((ticM l false false).2.2.1 = true) := Bool.eq_false_iff.1 hb65
  refine d_k [4,5,6,7,8,20,23] [] 8 En82 fun ac84 En85 => ?_
  refine f_o ?_
  refine m_l 0 En85 Hv58 fun ac86 En87 => ?_
  refine d_e [4,5,6,7,8,15] [] En87 fun ac88 En89 => ?_
  refine then_normal ?_
  refine c_d (((List.length ((ticM l false false).2.1) : Nat) : Int) > (0 : Int)) En89 (fun hc90 => ?_) (fun hc90 => ?_)
  ·
   refine wp_seq ?_
   refine region_from ?_
   refine f_o ?_
   refine m_a 6 0 5 [.int .u32 0, .int .u32 0, .slice none 0 0, .slice none 0 0, .slice none 0 0] En89 Hv58 rfl rfl rfl fun ac91 En92 => ?_
   refine f_o ?_
   refine m_g 5 0 5 [.int .u32 0, .int .u32 0, .slice none 0 0, .slice none 0 0, .slice none 0 0] [.int .u32 0, .int .u32 0, .slice none 0 0, .slice none 0 0, .slice none 0 0] [.box bk15 [.slice ta24 (List.length ((ticM l false false).2.1)) tc25, .bool ((ticM l false false).2.2.1), .bool ((ticM l false false).2.2.2)] 120, .vec oac30 occ31 1 (bys blc32) 5, .vec oad33 ocd34 1 (bys bld35) 5, .vec oae36 oce37 2 (List.flatMap fExt xse38) 147, .grp (List.flatMap innExt xse38), .box bk1 [.int .u32 0, .int .u32 0, .slice none 0 0, .slice none 0 0, .slice none 0 0] 86, .box bk8 [.int .u32 0, .int .u32 0, .slice none 0 0, .slice none 0 0, .slice none 0 0] 86, .box bk50 [uv32 xva28, uv32 xvb29, .slice oac30 (List.length blc32) occ31, .slice oad33 (List.length bld35) ocd34, .slice oae36 (List.length xse38) oce37] 86] En92 Hv58 rfl rfl (by simp) (one_all (by kernel_rfl)) rfl rfl fun ac93 wo94 En95 Hv96 => ?_
   refine d_e [4,5,6,7,8] [] En95 fun ac97 En98 => ?_
   refine then_normal ?_
   refine wp_ret ?_
   refine block_ret ?_
   refine then_ret ?_
   refine d_cell_tmp (v := .agg #[.int .u32 0, .int .u32 0, .slice none 0 0, .slice none 0 0, .slice none 0 0]) (x := .int .i64 50) (t := 4) (T := 86) (ad := ⟨bk1, 0, none⟩) (u := 5) En98 (by kernel_rfl) (by kernel_rfl) (Ev.cellAgg (t := 86) (k := 5) (off := 0) (m := 5) (xs := [.int .u32 0, .int .u32 0, .slice none 0 0, .slice none 0 0, .slice none 0 0]) Hv96 rfl rfl rfl (by kernel_rfl) (by kernel_rfl)) (by kernel_rfl) ?_
   have eA : gotA (ticM l false false) = 50 := Eq.symm (by first | exact end_1 (by assumption) | exact end_2 (by omega) | exact end_3 (by assumption) (by omega) (by assumption))
   rw [gotV_n eA (by decide), eA]
   have Hv99 : Ev w [] wo94 [.box bk15 [.slice ta24 (List.length ((ticM l false false).2.1)) tc25, .bool ((ticM l false false).2.2.1), .bool ((ticM l false false).2.2.2)] 120, .vec oac30 occ31 1 (bys blc32) 5, .vec oad33 ocd34 1 (bys bld35) 5, .vec oae36 oce37 2 (List.flatMap fExt xse38) 147, .grp (List.flatMap innExt xse38), .box bk1 [.int .u32 0, .int .u32 0, .slice none 0 0, .slice none 0 0, .slice none 0 0] 86, .box bk8 [.int .u32 0, .int .u32 0, .slice none 0 0, .slice none 0 0, .slice none 0 0] 86, .box bk50 [uv32 xva28, uv32 xvb29, .slice oac30 (List.length blc32) occ31, .slice oad33 (List.length bld35) ocd34, .slice oae36 (List.length xse38) oce37] 86, .vec none 0 1 (bys []) 5] := Ev.nil (sz := 1) (T := 5) Hv96
   have Hv100 : Ev w [] wo94 [.box bk15 [.slice ta24 (List.length ((ticM l false false).2.1)) tc25, .bool ((ticM l false false).2.2.1), .bool ((ticM l false false).2.2.2)] 120, .vec oac30 occ31 1 (bys blc32) 5, .vec oad33 ocd34 1 (bys bld35) 5, .vec oae36 oce37 2 (List.flatMap fExt xse38) 147, .grp (List.flatMap innExt xse38), .box bk1 [.int .u32 0, .int .u32 0, .slice none 0 0, .slice none 0 0, .slice none 0 0] 86, .box bk8 [.int .u32 0, .int .u32 0, .slice none 0 0, .slice none 0 0, .slice none 0 0] 86, .box bk50 [uv32 xva28, uv32 xvb29, .slice oac30 (List.length blc32) occ31, .slice oad33 (List.length bld35) ocd34, .slice oae36 (List.length xse38) oce37] 86, .vec none 0 1 (bys []) 5, .vec none 0 1 (bys []) 5] := Ev.nil (sz := 1) (T := 5) Hv99
   have Hv101 : Ev w [] wo94 [.box bk15 [.slice ta24 (List.length ((ticM l false false).2.1)) tc25, .bool ((ticM l false false).2.2.1), .bool ((ticM l false false).2.2.2)] 120, .vec oac30 occ31 1 (bys blc32) 5, .vec oad33 ocd34 1 (bys bld35) 5, .vec oae36 oce37 2 (List.flatMap fExt xse38) 147, .grp (List.flatMap innExt xse38), .box bk1 [.int .u32 0, .int .u32 0, .slice none 0 0, .slice none 0 0, .slice none 0 0] 86, .box bk8 [.int .u32 0, .int .u32 0, .slice none 0 0, .slice none 0 0, .slice none 0 0] 86, .box bk50 [uv32 xva28, uv32 xvb29, .slice oac30 (List.length blc32) occ31, .slice oad33 (List.length bld35) ocd34, .slice oae36 (List.length xse38) oce37] 86, .vec none 0 1 (bys []) 5, .vec none 0 1 (bys []) 5, .vec none 0 2 (List.flatMap fExt []) 147] := Ev.nil (sz := 2) (T := 147) Hv100
   have Hv102 : Ev w [] wo94 [.box bk15 [.slice ta24 (List.length ((ticM l false false).2.1)) tc25, .bool ((ticM l false false).2.2.1), .bool ((ticM l false false).2.2.2)] 120, .vec oac30 occ31 1 (bys blc32) 5, .vec oad33 ocd34 1 (bys bld35) 5, .vec oae36 oce37 2 (List.flatMap fExt xse38) 147, .grp (List.flatMap innExt xse38), .box bk1 [.int .u32 0, .int .u32 0, .slice none 0 0, .slice none 0 0, .slice none 0 0] 86, .box bk8 [.int .u32 0, .int .u32 0, .slice none 0 0, .slice none 0 0, .slice none 0 0] 86, .box bk50 [uv32 xva28, uv32 xvb29, .slice oac30 (List.length blc32) occ31, .slice oad33 (List.length bld35) ocd34, .slice oae36 (List.length xse38) oce37] 86, .vec none 0 1 (bys []) 5, .vec none 0 1 (bys []) 5, .vec none 0 2 (List.flatMap fExt []) 147, .grp (List.flatMap innExt [])] := Ev.grp0 Hv101
   exact ⟨0, 0, none, 0, [], none, 0, [], none, 0, [], rfl, Hv102.pk [8, 9, 10, 11], rfl, (Nat.zero_le _), (Nat.zero_le _), (Nat.zero_le _), (fun y hy => by cases hy)⟩
  ·
   refine wp_seq ?_
   refine region_from ?_
   refine d_k [4,5,6,7,8,32] [] 3 En89 fun ac103 En104 => ?_
   refine f_o ?_
   refine m_l 0 En104 Hv58 fun ac105 En106 => ?_
   refine d_e [4,5,6,7,8,29] [] En106 fun ac107 En108 => ?_
   refine then_normal ?_
   refine cond_at En108 (t := (ticM l false false).2.2.2) (by kernel_rfl) (fun hc109 => ?_) (fun hc109 => ?_)
   ·
    replace hc109 : (ticM l false false).2.2.2 = true := hc109
    refine wp_seq ?_
    refine region_from ?_
    refine f_o ?_
    refine m_a 6 0 5 [.int .u32 0, .int .u32 0, .slice none 0 0, .slice none 0 0, .slice none 0 0] En108 Hv58 rfl rfl rfl fun ac110 En111 => ?_
    refine f_o ?_
    refine m_g 5 0 5 [.int .u32 0, .int .u32 0, .slice none 0 0, .slice none 0 0, .slice none 0 0] [.int .u32 0, .int .u32 0, .slice none 0 0, .slice none 0 0, .slice none 0 0] [.box bk15 [.slice ta24 (List.length ((ticM l false false).2.1)) tc25, .bool ((ticM l false false).2.2.1), .bool ((ticM l false false).2.2.2)] 120, .vec oac30 occ31 1 (bys blc32) 5, .vec oad33 ocd34 1 (bys bld35) 5, .vec oae36 oce37 2 (List.flatMap fExt xse38) 147, .grp (List.flatMap innExt xse38), .box bk1 [.int .u32 0, .int .u32 0, .slice none 0 0, .slice none 0 0, .slice none 0 0] 86, .box bk8 [.int .u32 0, .int .u32 0, .slice none 0 0, .slice none 0 0, .slice none 0 0] 86, .box bk50 [uv32 xva28, uv32 xvb29, .slice oac30 (List.length blc32) occ31, .slice oad33 (List.length bld35) ocd34, .slice oae36 (List.length xse38) oce37] 86] En111 Hv58 rfl rfl (by simp) (one_all (by kernel_rfl)) rfl rfl fun ac112 wo113 En114 Hv115 => ?_
    refine d_e [4,5,6,7,8] [] En114 fun ac116 En117 => ?_
    refine then_normal ?_
    refine wp_ret ?_
    refine block_ret ?_
    refine then_ret ?_
    refine d_cell_tmp (v := .agg #[.int .u32 0, .int .u32 0, .slice none 0 0, .slice none 0 0, .slice none 0 0]) (x := .int .i64 47) (t := 4) (T := 86) (ad := ⟨bk1, 0, none⟩) (u := 5) En117 (by kernel_rfl) (by kernel_rfl) (Ev.cellAgg (t := 86) (k := 5) (off := 0) (m := 5) (xs := [.int .u32 0, .int .u32 0, .slice none 0 0, .slice none 0 0, .slice none 0 0]) Hv115 rfl rfl rfl (by kernel_rfl) (by kernel_rfl)) (by kernel_rfl) ?_
    have eA : gotA (ticM l false false) = 47 := Eq.symm (by first | exact end_1 (by assumption) | exact end_2 (by omega) | exact end_3 (by assumption) (by omega) (by assumption))
    rw [gotV_n eA (by decide), eA]
    have Hv118 : Ev w [] wo113 [.box bk15 [.slice ta24 (List.length ((ticM l false false).2.1)) tc25, .bool ((ticM l false false).2.2.1), .bool ((ticM l false false).2.2.2)] 120, .vec oac30 occ31 1 (bys blc32) 5, .vec oad33 ocd34 1 (bys bld35) 5, .vec oae36 oce37 2 (List.flatMap fExt xse38) 147, .grp (List.flatMap innExt xse38), .box bk1 [.int .u32 0, .int .u32 0, .slice none 0 0, .slice none 0 0, .slice none 0 0] 86, .box bk8 [.int .u32 0, .int .u32 0, .slice none 0 0, .slice none 0 0, .slice none 0 0] 86, .box bk50 [uv32 xva28, uv32 xvb29, .slice oac30 (List.length blc32) occ31, .slice oad33 (List.length bld35) ocd34, .slice oae36 (List.length xse38) oce37] 86, .vec none 0 1 (bys []) 5] := Ev.nil (sz := 1) (T := 5) Hv115
    have Hv119 : Ev w [] wo113 [.box bk15 [.slice ta24 (List.length ((ticM l false false).2.1)) tc25, .bool ((ticM l false false).2.2.1), .bool ((ticM l false false).2.2.2)] 120, .vec oac30 occ31 1 (bys blc32) 5, .vec oad33 ocd34 1 (bys bld35) 5, .vec oae36 oce37 2 (List.flatMap fExt xse38) 147, .grp (List.flatMap innExt xse38), .box bk1 [.int .u32 0, .int .u32 0, .slice none 0 0, .slice none 0 0, .slice none 0 0] 86, .box bk8 [.int .u32 0, .int .u32 0, .slice none 0 0, .slice none 0 0, .slice none 0 0] 86, .box bk50 [uv32 xva28, uv32 xvb29, .slice oac30 (List.length blc32) occ31, .slice oad33 (List.length bld35) ocd34, .slice oae36 (List.length xse38) oce37] 86, .vec none 0 1 (bys []) 5, .vec none 0 1 (bys []) 5] := Ev.nil (sz := 1) (T := 5) Hv118
    have Hv120 : Ev w [] wo113 [.box bk15 [.slice ta24 (List.length ((ticM l false false).2.1)) tc25, .bool ((ticM l false false).2.2.1), .bool ((ticM l false false).2.2.2)] 120, .vec oac30 occ31 1 (bys blc32) 5, .vec oad33 ocd34 1 (bys bld35) 5, .vec oae36 oce37 2 (List.flatMap fExt xse38) 147, .grp (List.flatMap innExt xse38), .box bk1 [.int .u32 0, .int .u32 0, .slice none 0 0, .slice none 0 0, .slice none 0 0] 86, .box bk8 [.int .u32 0, .int .u32 0, .slice none 0 0, .slice none 0 0, .slice none 0 0] 86, .box bk50 [uv32 xva28, uv32 xvb29, .slice oac30 (List.length blc32) occ31, .slice oad33 (List.length bld35) ocd34, .slice oae36 (List.length xse38) oce37] 86, .vec none 0 1 (bys []) 5, .vec none 0 1 (bys []) 5, .vec none 0 2 (List.flatMap fExt []) 147] := Ev.nil (sz := 2) (T := 147) Hv119
    have Hv121 : Ev w [] wo113 [.box bk15 [.slice ta24 (List.length ((ticM l false false).2.1)) tc25, .bool ((ticM l false false).2.2.1), .bool ((ticM l false false).2.2.2)] 120, .vec oac30 occ31 1 (bys blc32) 5, .vec oad33 ocd34 1 (bys bld35) 5, .vec oae36 oce37 2 (List.flatMap fExt xse38) 147, .grp (List.flatMap innExt xse38), .box bk1 [.int .u32 0, .int .u32 0, .slice none 0 0, .slice none 0 0, .slice none 0 0] 86, .box bk8 [.int .u32 0, .int .u32 0, .slice none 0 0, .slice none 0 0, .slice none 0 0] 86, .box bk50 [uv32 xva28, uv32 xvb29, .slice oac30 (List.length blc32) occ31, .slice oad33 (List.length bld35) ocd34, .slice oae36 (List.length xse38) oce37] 86, .vec none 0 1 (bys []) 5, .vec none 0 1 (bys []) 5, .vec none 0 2 (List.flatMap fExt []) 147, .grp (List.flatMap innExt [])] := Ev.grp0 Hv120
    exact ⟨0, 0, none, 0, [], none, 0, [], none, 0, [], rfl, Hv121.pk [8, 9, 10, 11], rfl, (Nat.zero_le _), (Nat.zero_le _), (Nat.zero_le _), (fun y hy => by cases hy)⟩
   ·
    replace hc109 : ¬ ((ticM l false false).2.2.2 = true) := Bool.eq_false_iff.1 hc109
    refine wp_skip ?_
    refine block_normal ?_
    refine then_normal ?_
    refine wp_seq ?_
    refine region_from ?_
    refine f_o ?_
    refine m_a 7 0 5 [uv32 xva28, uv32 xvb29, .slice oac30 (List.length blc32) occ31, .slice oad33 (List.length bld35) ocd34, .slice oae36 (List.length xse38) oce37] En108 Hv58 rfl rfl rfl fun ac122 En123 => ?_
    refine f_o ?_
    refine m_g 5 0 5 [uv32 xva28, uv32 xvb29, .slice oac30 (List.length blc32) occ31, .slice oad33 (List.length bld35) ocd34, .slice oae36 (List.length xse38) oce37] [uv32 xva28, uv32 xvb29, .slice oac30 (List.length blc32) occ31, .slice oad33 (List.length bld35) ocd34, .slice oae36 (List.length xse38) oce37] [.box bk15 [.slice ta24 (List.length ((ticM l false false).2.1)) tc25, .bool ((ticM l false false).2.2.1), .bool ((ticM l false false).2.2.2)] 120, .vec oac30 occ31 1 (bys blc32) 5, .vec oad33 ocd34 1 (bys bld35) 5, .vec oae36 oce37 2 (List.flatMap fExt xse38) 147, .grp (List.flatMap innExt xse38), .box bk1 [uv32 xva28, uv32 xvb29, .slice oac30 (List.length blc32) occ31, .slice oad33 (List.length bld35) ocd34, .slice oae36 (List.length xse38) oce37] 86, .box bk8 [.int .u32 0, .int .u32 0, .slice none 0 0, .slice none 0 0, .slice none 0 0] 86, .box bk50 [uv32 xva28, uv32 xvb29, .slice oac30 (List.length blc32) occ31, .slice oad33 (List.length bld35) ocd34, .slice oae36 (List.length xse38) oce37] 86] En123 Hv58 rfl rfl (by simp) (one_all (by kernel_rfl)) rfl rfl fun ac124 wo125 En126 Hv127 => ?_
    refine d_e [4,5,6,7,8] [] En126 fun ac128 En129 => ?_
    refine then_normal ?_
    refine wp_ret ?_
    refine d_cell_tmp (v := .agg #[uv32 xva28, uv32 xvb29, .slice oac30 (List.length blc32) occ31, .slice oad33 (List.length bld35) ocd34, .slice oae36 (List.length xse38) oce37]) (x := .int .i64 0) (t := 4) (T := 86) (ad := ⟨bk1, 0, none⟩) (u := 5) En129 (by kernel_rfl) (by kernel_rfl) (Ev.cellAgg (t := 86) (k := 5) (off := 0) (m := 5) (xs := [uv32 xva28, uv32 xvb29, .slice oac30 (List.length blc32) occ31, .slice oad33 (List.length bld35) ocd34, .slice oae36 (List.length xse38) oce37]) Hv127 rfl rfl rfl (by kernel_rfl) (by kernel_rfl)) (by kernel_rfl) ?_
    have eA : gotA (ticM l false false) = 0 := (end_4 (by assumption) (by omega) (by assumption)).symm
    rw [gotV_0 eA, eA]
    exact ⟨xva28, xvb29, oac30, occ31, blc32, oad33, ocd34, bld35, oae36, oce37, xse38, rfl, Hv127.pk [1, 2, 3, 4], hpu27, hf39, hf40, hf41, hf42⟩

theorem getticket_go (w : World) (aq : Option Addr) (nq cq : Nat) (lq : List UInt8) (eq : nq = List.length lq) (iq : InB w [] aq cq lq) : Calls Try.prog 86 #[.slice aq nq cq] w fun e w' => ∃ xva xvb oac occ blc oad ocd bld oae oce xse, e = .returned (.tuple #[.agg #[uv32 xva, uv32 xvb, .slice oac (List.length blc) occ, .slice oad (List.length bld) ocd, .slice oae (List.length xse) oce], .int .i64 (gotA (ticM lq false false))]) ∧ Ev w [] w' [.vec oac occ 1 (bys blc) 5, .vec oad ocd 1 (bys bld) 5, .vec oae oce 2 (List.flatMap fExt xse) 147, .grp (List.flatMap innExt xse)] ∧ (xva, xvb, blc, bld, List.map (fun y : RExt => (y.1, y.2.1.l)) xse) = gotV (0, 0, [], [], []) (ticM lq false false) ∧ List.length blc ≤ 4294967296 ∧ List.length bld ≤ 4294967296 ∧ List.length xse ≤ 4294967296 ∧ ∀ y ∈ xse, List.length y.2.1.l ≤ 140737488351232 := by
 subst eq
 refine d_0 [(0, .slice aq (List.length lq) cq)] 8 Go.Proofs.Try.func86 Go.Proofs.Try.ntmps86 (Heap.nil _) fun act0 En0 Hv0 => ?_
 refine wp_seq ?_
 refine region_from ?_
 refine f_o ?_
 refine m_z 86 [.int .u32 0, .int .u32 0, .slice none 0 0, .slice none 0 0, .slice none 0 0] En0 Hv0 fun ac2 wo3 bk1 En4 Hv5 => ?_
 refine d_e [0,2,3] [] En4 fun ac6 En7 => ?_
 refine then_normal ?_
 refine wp_seq ?_
 refine region_from ?_
 refine d_k [2,3,4] [] 1 En7 fun ac8 En9 => ?_
 refine f_o ?_
 refine c_0 En9 Hv5 (got_gettic _ aq cq lq ((iq.ev Hv5).pick [] (by kernel_rfl))) ?_
 rintro _ wo27 ⟨xva10, xvb11, oac12, occ13, blc14, oad15, ocd16, bld17, oae18, oce19, xse20, rfl, he28, hpu21, hf22, hf23, hf24, hf25⟩
 refine ⟨_, _, _, rfl, he28, rfl, fun ac30 En31 Hv32 => ?_⟩
 refine d_k [2,3,6,7] [] 4 En31 fun ac33 En34 => ?_
 refine f_o ?_
 refine m_g 4 0 5 [uv32 xva10, uv32 xvb11, .slice oac12 (List.length blc14) occ13, .slice oad15 (List.length bld17) ocd16, .slice oae18 (List.length xse20) oce19] [uv32 xva10, uv32 xvb11, .slice oac12 (List.length blc14) occ13, .slice oad15 (List.length bld17) ocd16, .slice oae18 (List.length xse20) oce19] [.vec oac12 occ13 1 (bys blc14) 5, .vec oad15 ocd16 1 (bys bld17) 5, .vec oae18 oce19 2 (List.flatMap fExt xse20) 147, .grp (List.flatMap innExt xse20), .box bk1 [uv32 xva10, uv32 xvb11, .slice oac12 (List.length blc14) occ13, .slice oad15 (List.length bld17) ocd16, .slice oae18 (List.length xse20) oce19] 86] En34 Hv32 rfl rfl (by simp) (one_all (by kernel_rfl)) rfl rfl fun ac35 wo36 En37 Hv38 => ?_
 refine d_e [2,3] [] En37 fun ac39 En40 => ?_
 refine then_normal ?_
 refine wp_ret ?_
 refine d_cell_tmp (v := .agg #[uv32 xva10, uv32 xvb11, .slice oac12 (List.length blc14) occ13, .slice oad15 (List.length bld17) ocd16, .slice oae18 (List.length xse20) oce19]) (x := .int .i64 (gotA (ticM lq false false))) (t := 2) (T := 86) (ad := ⟨bk1, 0, none⟩) (u := 3) En40 (by kernel_rfl) (by kernel_rfl) (Ev.cellAgg (t := 86) (k := 4) (off := 0) (m := 5) (xs := [uv32 xva10, uv32 xvb11, .slice oac12 (List.length blc14) occ13, .slice oad15 (List.length bld17) ocd16, .slice oae18 (List.length xse20) oce19]) Hv38 rfl rfl rfl (by kernel_rfl) (by kernel_rfl)) (by kernel_rfl) ?_
 exact ⟨xva10, xvb11, oac12, occ13, blc14, oad15, ocd16, bld17, oae18, oce19, xse20, rfl, Hv38.pk [0, 1, 2, 3], hpu21, hf22, hf23, hf24, hf25⟩

theorem dgetrequest_go (w : World) (aq : Option Addr) (nq cq : Nat) (lq : List UInt8) (eq : nq = List.length lq) (iq : InB w [] aq cq lq) : Calls Try.prog 83 #[.slice aq nq cq] w fun e w' => ∃ oaa oca bla oab ocb xsb, e = .returned (.tuple #[.agg #[.slice oaa (List.length bla) oca, .slice oab (List.length xsb) ocb], .int .i64 (gotA (dreqM lq false false))]) ∧ Ev w [] w' [.vec oaa oca 1 (bys bla) 5, .vec oab ocb 2 (List.flatMap fExt xsb) 147, .grp (List.flatMap innExt xsb)] ∧ (bla, List.map (fun y : RExt => (y.1, y.2.1.l)) xsb) = gotV ([], []) (dreqM lq false false) ∧ List.length bla ≤ 4294967296 ∧ List.length xsb ≤ 4294967296 ∧ ∀ y ∈ xsb, List.length y.2.1.l ≤ 140737488351232 := by
 subst eq
 refine d_0 [(0, .slice aq (List.length lq) cq)] 24 Go.Proofs.Try.func83 Go.Proofs.Try.ntmps83 (Heap.nil _) fun act0 En0 Hv0 => ?_
 refine wp_seq ?_
 refine region_from ?_
 refine f_o ?_
 refine m_z 96 [.slice none 0 0, .slice none 0 0] En0 Hv0 fun ac2 wo3 bk1 En4 Hv5 => ?_
 refine d_e [0,2,3] [] En4 fun ac6 En7 => ?_
 refine then_normal ?_
 refine wp_seq ?_
 refine region_from ?_
 refine d_k [2,3,8] [] 2 En7 fun ac8 En9 => ?_
 refine f_o ?_
 refine m_m 154 [.slice aq (List.length lq) cq, .bool false, .bool false] En9 Hv5 fun ac11 wo12 bk10 En13 Hv14 => ?_
 refine d_e [2,3,4] [] En13 fun ac15 En16 => ?_
 refine then_normal ?_
 refine wp_seq ?_
 refine region_from ?_
 refine d_k [2,3,4,10] [] 1 En16 fun ac17 En18 => ?_
 refine f_o ?_
 refine c_l [1] (M := [.box bk10 [.slice aq (List.length lq) cq, .bool false, .bool false] 154]) En18 Hv14 (fun hM24 => dlist_go _ bk10 1 (by omega) 0 255 (by omega) (by omega) aq cq lq false false ((iq.ev Hv14).pick [1] (by kernel_rfl)) hM24) ?_
 rintro _ wo25 ⟨ao19, cp20, ta21, tc22, rfl, he26, hs23⟩
 refine ⟨_, _, [.box bk10 [.slice ta21 (List.length (ldR 1 0 255 lq false)) tc22, .bool (ldS 1 0 255 lq false), .bool false] 154, .vec ao19 cp20 1 (bys (ldO 1 0 255 lq false)) 5, .box bk1 [.slice none 0 0, .slice none 0 0] 96], rfl, he26, by kernel_rfl, fun ac28 En29 Hv30 => ?_⟩
 refine d_k [2,3,4,12] [] 3 En29 fun ac31 En32 => ?_
 refine f_o ?_
 refine m_z 96 [.slice none 0 0, .slice none 0 0] En32 Hv30 fun ac34 wo35 bk33 En36 Hv37 => ?_
 refine f_o ?_
 refine m_g 3 0 2 [.slice ao19 (List.length (ldO 1 0 255 lq false)) cp20, .slice none 0 0] [.slice ao19 (List.length (ldO 1 0 255 lq false)) cp20, .slice none 0 0] [.box bk10 [.slice ta21 (List.length (ldR 1 0 255 lq false)) tc22, .bool (ldS 1 0 255 lq false), .bool false] 154, .vec ao19 cp20 1 (bys (ldO 1 0 255 lq false)) 5, .box bk1 [.slice none 0 0, .slice none 0 0] 96, .box bk33 [.slice ao19 (List.length (ldO 1 0 255 lq false)) cp20, .slice none 0 0] 96] En36 Hv37 rfl rfl (by simp) (one_all (by kernel_rfl)) rfl rfl fun ac38 wo39 En40 Hv41 => ?_
 refine f_e ?_
 refine then_normal ?_
 refine wp_seq ?_
 refine region_from ?_
 refine d_k [2,3,4,5,13] [] 1 En40 fun ac42 En43 => ?_
 refine f_o ?_
 refine c_l [0] (M := [.box bk10 [.slice ta21 (List.length (ldR 1 0 255 lq false)) tc22, .bool (ldS 1 0 255 lq false), .bool false] 154]) En43 Hv41 (fun hM53 => dexts_go _ bk10 ta21 tc22 (ldR 1 0 255 lq false) (ldS 1 0 255 lq false) false (hs23 _ _ ((iq.ev Hv41).pick [0] (by kernel_rfl))) hM53) ?_
 rintro _ wo54 ⟨ta44, tc45, oa48, oc49, xs50, rfl, he55, hs46, hpu47, hf51, hf52⟩
 refine ⟨_, _, [.box bk10 [.slice ta44 (List.length ((dextsM (ldR 1 0 255 lq false) (ldS 1 0 255 lq false) false).2.1)) tc45, .bool ((dextsM (ldR 1 0 255 lq false) (ldS 1 0 255 lq false) false).2.2.1), .bool ((dextsM (ldR 1 0 255 lq false) (ldS 1 0 255 lq false) false).2.2.2)] 154, .vec oa48 oc49 2 (List.flatMap fExt xs50) 147, .grp (List.flatMap innExt xs50), .vec ao19 cp20 1 (bys (ldO 1 0 255 lq false)) 5, .box bk1 [.slice none 0 0, .slice none 0 0] 96, .box bk33 [.slice ao19 (List.length (ldO 1 0 255 lq false)) cp20, .slice none 0 0] 96], rfl, he55, by kernel_rfl, fun ac57 En58 Hv59 => ?_⟩
 refine d_k [2,3,4,5,14,15] [] 3 En58 fun ac60 En61 => ?_
 refine f_o ?_
 refine m_s 5 [.box bk10 [.slice ta44 (List.length ((dextsM (ldR 1 0 255 lq false) (ldS 1 0 255 lq false) false).2.1)) tc45, .bool ((dextsM (ldR 1 0 255 lq false) (ldS 1 0 255 lq false) false).2.2.1), .bool ((dextsM (ldR 1 0 255 lq false) (ldS 1 0 255 lq false) false).2.2.2)] 154, .vec oa48 oc49 2 (List.flatMap fExt xs50) 147, .grp (List.flatMap innExt xs50), .vec ao19 cp20 1 (bys (ldO 1 0 255 lq false)) 5, .box bk1 [.slice none 0 0, .slice none 0 0] 96, .box bk33 [.slice ao19 (List.length (ldO 1 0 255 lq false)) cp20, .slice oa48 (List.length xs50) oc49] 96] En61 Hv59 fun ac62 wo63 En64 Hv65 => ?_
 refine f_e ?_
 refine then_normal ?_
 refine wp_seq ?_
 refine region_from ?_
 refine d_k [2,3,4,5,16] [] 1 En64 fun ac66 En67 => ?_
 refine f_o ?_
 refine c_l [0] (M := [.box bk10 [.slice ta44 (List.length ((dextsM (ldR 1 0 255 lq false) (ldS 1 0 255 lq false) false).2.1)) tc45, .bool ((dextsM (ldR 1 0 255 lq false) (ldS 1 0 255 lq false) false).2.2.1), .bool ((dextsM (ldR 1 0 255 lq false) (ldS 1 0 255 lq false) false).2.2.2)] 154]) En67 Hv65 (fun hM68 => dend_go _ bk10 ta44 (List.length ((dextsM (ldR 1 0 255 lq false) (ldS 1 0 255 lq false) false).2.1)) tc45 ((dextsM (ldR 1 0 255 lq false) (ldS 1 0 255 lq false) false).2.2.1) ((dextsM (ldR 1 0 255 lq false) (ldS 1 0 255 lq false) false).2.2.2) hM68) ?_
 rintro _ wo69 ⟨rfl, he70⟩
 refine ⟨_, _, [.box bk10 [.slice ta44 (List.length ((dextsM (ldR 1 0 255 lq false) (ldS 1 0 255 lq false) false).2.1)) tc45, .bool ((dextsM (ldR 1 0 255 lq false) (ldS 1 0 255 lq false) false).2.2.1), .bool ((dextsM (ldR 1 0 255 lq false) (ldS 1 0 255 lq false) false).2.2.2)] 154, .vec oa48 oc49 2 (List.flatMap fExt xs50) 147, .grp (List.flatMap innExt xs50), .vec ao19 cp20 1 (bys (ldO 1 0 255 lq false)) 5, .box bk1 [.slice none 0 0, .slice none 0 0] 96, .box bk33 [.slice ao19 (List.length (ldO 1 0 255 lq false)) cp20, .slice oa48 (List.length xs50) oc49] 96], rfl, he70, by kernel_rfl, fun ac72 En73 Hv74 => ?_⟩
 refine d_e [2,3,4,5,6] [] En73 fun ac75 En76 => ?_
 refine then_normal ?_
 refine wp_seq ?_
 refine d_s [2,3,4,5,6,19] [] En76 fun ac77 En78 => ?_
 refine c_n (endV ((dextsM (ldR 1 0 255 lq false) (ldS 1 0 255 lq false) false).2.2.1) (List.length ((dextsM (ldR 1 0 255 lq false) (ldS 1 0 255 lq false) false).2.1)) ((dextsM (ldR 1 0 255 lq false) (ldS 1 0 255 lq false) false).2.2.2)) (0 : Int) En78 (fun hc79 => ?_) (fun hc79 => ?_)
 ·
  refine wp_seq ?_
  refine region_from ?_
  refine d_k [2,3,4,5,6,20,21] [] 2 En78 fun ac80 En81 => ?_
  refine f_o ?_
  refine m_g 4 0 2 [.slice none 0 0, .slice none 0 0] [.slice none 0 0, .slice none 0 0] [.box bk10 [.slice ta44 (List.length ((dextsM (ldR 1 0 255 lq false) (ldS 1 0 255 lq false) false).2.1)) tc45, .bool ((dextsM (ldR 1 0 255 lq false) (ldS 1 0 255 lq false) false).2.2.1), .bool ((dextsM (ldR 1 0 255 lq false) (ldS 1 0 255 lq false) false).2.2.2)] 154, .vec oa48 oc49 2 (List.flatMap fExt xs50) 147, .grp (List.flatMap innExt xs50), .vec ao19 cp20 1 (bys (ldO 1 0 255 lq false)) 5, .box bk1 [.slice none 0 0, .slice none 0 0] 96, .box bk33 [.slice ao19 (List.length (ldO 1 0 255 lq false)) cp20, .slice oa48 (List.length xs50) oc49] 96] En81 Hv74 rfl rfl (by simp) (one_all (by kernel_rfl)) rfl rfl fun ac82 wo83 En84 Hv85 => ?_
  refine d_e [2,3,4,5,6] [] En84 fun ac86 En87 => ?_
  refine then_normal ?_
  refine wp_ret ?_
  refine then_ret ?_
  refine d_cell_tmp (v := .agg #[.slice none 0 0, .slice none 0 0]) (x := .int .i64 (endV ((dextsM (ldR 1 0 255 lq false) (ldS 1 0 255 lq false) false).2.2.1) (List.length ((dextsM (ldR 1 0 255 lq false) (ldS 1 0 255 lq false) false).2.1)) ((dextsM (ldR 1 0 255 lq false) (ldS 1 0 255 lq false) false).2.2.2))) (t := 2) (T := 96) (ad := ⟨bk1, 0, none⟩) (u := 3) En87 (by kernel_rfl) (by kernel_rfl) (Ev.cellAgg (t := 96) (k := 4) (off := 0) (m := 2) (xs := [.slice none 0 0, .slice none 0 0]) Hv85 rfl rfl rfl (by kernel_rfl) (by kernel_rfl)) (by kernel_rfl) ?_
  have eA : gotA (dreqM lq false false) = endV ((dextsM (ldR 1 0 255 lq false) (ldS 1 0 255 lq false) false).2.2.1) (List.length ((dextsM (ldR 1 0 255 lq false) (ldS 1 0 255 lq false) false).2.1)) ((dextsM (ldR 1 0 255 lq false) (ldS 1 0 255 lq false) false).2.2.2) := rfl
  rw [gotV_n eA (by assumption), eA]
  have Hv88 : Ev w [] wo83 [.box bk10 [.slice ta44 (List.length ((dextsM (ldR 1 0 255 lq false) (ldS 1 0 255 lq false) false).2.1)) tc45, .bool ((dextsM (ldR 1 0 255 lq false) (ldS 1 0 255 lq false) false).2.2.1), .bool ((dextsM (ldR 1 0 255 lq false) (ldS 1 0 255 lq false) false).2.2.2)] 154, .vec oa48 oc49 2 (List.flatMap fExt xs50) 147, .grp (List.flatMap innExt xs50), .vec ao19 cp20 1 (bys (ldO 1 0 255 lq false)) 5, .box bk1 [.slice none 0 0, .slice none 0 0] 96, .box bk33 [.slice ao19 (List.length (ldO 1 0 255 lq false)) cp20, .slice oa48 (List.length xs50) oc49] 96, .vec none 0 1 (bys []) 5] := Ev.nil (sz := 1) (T := 5) Hv85
  have Hv89 : Ev w [] wo83 [.box bk10 [.slice ta44 (List.length ((dextsM (ldR 1 0 255 lq false) (ldS 1 0 255 lq false) false).2.1)) tc45, .bool ((dextsM (ldR 1 0 255 lq false) (ldS 1 0 255 lq false) false).2.2.1), .bool ((dextsM (ldR 1 0 255 lq false) (ldS 1 0 255 lq false) false).2.2.2)] 154, .vec oa48 oc49 2 (List.flatMap fExt xs50) 147, .grp (List.flatMap innExt xs50), .vec ao19 cp20 1 (bys (ldO 1 0 255 lq false)) 5, .box bk1 [.slice none 0 0, .slice none 0 0] 96, .box bk33 [.slice ao19 (List.length (ldO 1 0 255 lq false)) cp20, .slice oa48 (List.length xs50) oc49] 96, .vec none 0 1 (bys []) 5, .vec none 0 2 (List.flatMap fExt []) 147] := Ev.nil (sz := 2) (T := 147) Hv88
  have Hv90 : Ev w [] wo83 [.box bk10 [.slice ta44 (List.length ((dextsM (ldR 1 0 255 lq false) (ldS 1 0 255 lq false) false).2.1)) tc45, .bool ((dextsM (ldR 1 0 255 lq false) (ldS 1 0 255 lq false) false).2.2.1), .bool ((dextsM (ldR 1 0 255 lq false) (ldS 1 0 255 lq false) false).2.2.2)] 154, .vec oa48 oc49 2 (List.flatMap fExt xs50) 147, .grp (List.flatMap innExt xs50), .vec ao19 cp20 1 (bys (ldO 1 0 255 lq false)) 5, .box bk1 [.slice none 0 0, .slice none 0 0] 96, .box bk33 [.slice ao19 (List.length (ldO 1 0 255 lq false)) cp20, .slice oa48 (List.length xs50) oc49] 96, .vec none 0 1 (bys []) 5, .vec none 0 2 (List.flatMap fExt []) 147, .grp (List.flatMap innExt [])] := Ev.grp0 Hv89
  exact ⟨none, 0, [], none, 0, [], rfl, Hv90.pk [6, 7, 8], rfl, (Nat.zero_le _), (Nat.zero_le _), (fun y hy => by cases hy)⟩
 ·
  refine wp_skip ?_
  refine then_normal ?_
  refine wp_seq ?_
  refine region_from ?_
  refine f_o ?_
  refine m_a 5 0 2 [.slice ao19 (List.length (ldO 1 0 255 lq false)) cp20, .slice oa48 (List.length xs50) oc49] En78 Hv74 rfl rfl rfl fun ac91 En92 => ?_
  refine d_k [2,3,4,5,6,22,23] [] 2 En92 fun ac93 En94 => ?_
  refine f_o ?_
  refine m_g 4 0 2 [.slice ao19 (List.length (ldO 1 0 255 lq false)) cp20, .slice oa48 (List.length xs50) oc49] [.slice ao19 (List.length (ldO 1 0 255 lq false)) cp20, .slice oa48 (List.length xs50) oc49] [.box bk10 [.slice ta44 (List.length ((dextsM (ldR 1 0 255 lq false) (ldS 1 0 255 lq false) false).2.1)) tc45, .bool ((dextsM (ldR 1 0 255 lq false) (ldS 1 0 255 lq false) false).2.2.1), .bool ((dextsM (ldR 1 0 255 lq false) (ldS 1 0 255 lq false) false).2.2.2)] 154, .vec oa48 oc49 2 (List.flatMap fExt xs50) 147, .grp (List.flatMap innExt xs50), .vec ao19 cp20 1 (bys (ldO 1 0 255 lq false)) 5, .box bk1 [.slice ao19 (List.length (ldO 1 0 255 lq false)) cp20, .slice oa48 (List.length xs50) oc49] 96, .box bk33 [.slice ao19 (List.length (ldO 1 0 255 lq false)) cp20, .slice oa48 (List.length xs50) oc49] 96] En94 Hv74 rfl rfl (by simp) (one_all (by kernel_rfl)) rfl rfl fun ac95 wo96 En97 Hv98 => ?_
  refine d_e [2,3,4,5,6] [] En97 fun ac99 En100 => ?_
  refine then_normal ?_
  refine wp_ret ?_
  refine d_cell_tmp (v := .agg #[.slice ao19 (List.length (ldO 1 0 255 lq false)) cp20, .slice oa48 (List.length xs50) oc49]) (x := .int .i64 (endV ((dextsM (ldR 1 0 255 lq false) (ldS 1 0 255 lq false) false).2.2.1) (List.length ((dextsM (ldR 1 0 255 lq false) (ldS 1 0 255 lq false) false).2.1)) ((dextsM (ldR 1 0 255 lq false) (ldS 1 0 255 lq false) false).2.2.2))) (t := 2) (T := 96) (ad := ⟨bk1, 0, none⟩) (u := 3) En100 (by kernel_rfl) (by kernel_rfl) (Ev.cellAgg (t := 96) (k := 4) (off := 0) (m := 2) (xs := [.slice ao19 (List.length (ldO 1 0 255 lq false)) cp20, .slice oa48 (List.length xs50) oc49]) Hv98 rfl rfl rfl (by kernel_rfl) (by kernel_rfl)) (by kernel_rfl) ?_
  have eA : gotA (dreqM lq false false) = endV ((dextsM (ldR 1 0 255 lq false) (ldS 1 0 255 lq false) false).2.2.1) (List.length ((dextsM (ldR 1 0 255 lq false) (ldS 1 0 255 lq false) false).2.1)) ((dextsM (ldR 1 0 255 lq false) (ldS 1 0 255 lq false) false).2.2.2) := rfl
  rw [gotV_0 (eA.trans (by first | assumption | exact Classical.not_not.1 (by assumption))), eA]
  exact ⟨ao19, cp20, (ldO 1 0 255 lq false), oa48, oc49, xs50, rfl, Hv98.pk [3, 1, 2], (by rw [hpu47]; rfl), (Nat.le_of_succ_le (ldO_32 (by decide) _ _)), hf51, hf52⟩

theorem dgetverify_go (w : World) (aq : Option Addr) (nq cq : Nat) (lq : List UInt8) (eq : nq = List.length lq) (iq : InB w [] aq cq lq) : Calls Try.prog 85 #[.slice aq nq cq] w fun e w' => ∃ xva oab ocb blb, e = .returned (.tuple #[.agg #[uv16 xva, .slice oab (List.length blb) ocb], .int .i64 (gotA (dextM lq false false))]) ∧ Ev w [] w' [.vec oab ocb 1 (bys blb) 5] ∧ (xva, blb) = gotV (0, []) (dextM lq false false) ∧ List.length blb ≤ 4294967296 := by
 subst eq
 refine d_0 [(0, .slice aq (List.length lq) cq)] 25 Go.Proofs.Try.func85 Go.Proofs.Try.ntmps85 (Heap.nil _) fun act0 En0 Hv0 => ?_
 refine wp_seq ?_
 refine region_from ?_
 refine f_o ?_
 refine m_z 88 [.int .u16 0, .slice none 0 0] En0 Hv0 fun ac2 wo3 bk1 En4 Hv5 => ?_
 refine d_e [0,2,3] [] En4 fun ac6 En7 => ?_
 refine then_normal ?_
 refine wp_seq ?_
 refine region_from ?_
 refine d_k [2,3,8] [] 2 En7 fun ac8 En9 => ?_
 refine f_o ?_
 refine m_m 154 [.slice aq (List.length lq) cq, .bool false, .bool false] En9 Hv5 fun ac11 wo12 bk10 En13 Hv14 => ?_
 refine d_e [2,3,4] [] En13 fun ac15 En16 => ?_
 refine then_normal ?_
 refine wp_seq ?_
 refine region_from ?_
 refine d_k [2,3,4,10] [] 1 En16 fun ac17 En18 => ?_
 refine f_o ?_
 refine c_l [1] (M := [.box bk10 [.slice aq (List.length lq) cq, .bool false, .bool false] 154]) En18 Hv14 (fun hM22 => dnumber_go _ bk10 2 (by omega) aq cq lq false false ((iq.ev Hv14).pick [1] (by kernel_rfl)) hM22) ?_
 rintro _ wo23 ⟨ta19, tc20, rfl, he24, hs21⟩
 refine ⟨_, _, [.box bk10 [.slice ta19 (List.length (dkR 2 lq false)) tc20, .bool (tkS 2 lq false), .bool false] 154, .box bk1 [.int .u16 0, .slice none 0 0] 88], rfl, he24, by kernel_rfl, fun ac26 En27 Hv28 => ?_⟩
 refine d_k [2,3,4,13] [(2, g_i .u16 (Go.Dbr.nat_to_u16 (a := ((nbV 2 lq false : Nat) : Int)) (n := nbV 2 lq false) rfl))] 4 En27 fun ac29 En30 => ?_
 refine f_o ?_
 refine m_z 88 [.int .u16 0, .slice none 0 0] En30 Hv28 fun ac32 wo33 bk31 En34 Hv35 => ?_
 refine f_o ?_
 refine m_g 2 0 2 [.int .u16 ((UInt16.toNat (UInt16.ofNat (nbV 2 lq false)) : Nat) : Int), .slice none 0 0] [.int .u16 ((UInt16.toNat (UInt16.ofNat (nbV 2 lq false)) : Nat) : Int), .slice none 0 0] [.box bk10 [.slice ta19 (List.length (dkR 2 lq false)) tc20, .bool (tkS 2 lq false), .bool false] 154, .box bk1 [.int .u16 0, .slice none 0 0] 88, .box bk31 [.int .u16 ((UInt16.toNat (UInt16.ofNat (nbV 2 lq false)) : Nat) : Int), .slice none 0 0] 88] En34 Hv35 rfl rfl (by simp) (one_all (by kernel_rfl)) rfl rfl fun ac36 wo37 En38 Hv39 => ?_
 refine f_e ?_
 refine then_normal ?_
 refine wp_seq ?_
 refine region_from ?_
 refine d_k [2,3,4,5,14] [] 1 En38 fun ac40 En41 => ?_
 refine f_o ?_
 refine c_l [0] (M := [.box bk10 [.slice ta19 (List.length (dkR 2 lq false)) tc20, .bool (tkS 2 lq false), .bool false] 154]) En41 Hv39 (fun hM47 => dlist_go _ bk10 2 (by omega) 0 65535 (by omega) (by omega) ta19 tc20 (dkR 2 lq false) (tkS 2 lq false) false (hs21 _ _ ((iq.ev Hv39).pick [0] (by kernel_rfl))) hM47) ?_
 rintro _ wo48 ⟨ao42, cp43, ta44, tc45, rfl, he49, hs46⟩
 refine ⟨_, _, [.box bk10 [.slice ta44 (List.length (ldR 2 0 65535 (dkR 2 lq false) (tkS 2 lq false))) tc45, .bool (ldS 2 0 65535 (dkR 2 lq false) (tkS 2 lq false)), .bool false] 154, .vec ao42 cp43 1 (bys (ldO 2 0 65535 (dkR 2 lq false) (tkS 2 lq false))) 5, .box bk1 [.int .u16 0, .slice none 0 0] 88, .box bk31 [.int .u16 ((UInt16.toNat (UInt16.ofNat (nbV 2 lq false)) : Nat) : Int), .slice none 0 0] 88], rfl, he49, by kernel_rfl, fun ac51 En52 Hv53 => ?_⟩
 refine d_k [2,3,4,5,15,16] [] 3 En52 fun ac54 En55 => ?_
 refine f_o ?_
 refine m_s 3 [.box bk10 [.slice ta44 (List.length (ldR 2 0 65535 (dkR 2 lq false) (tkS 2 lq false))) tc45, .bool (ldS 2 0 65535 (dkR 2 lq false) (tkS 2 lq false)), .bool false] 154, .vec ao42 cp43 1 (bys (ldO 2 0 65535 (dkR 2 lq false) (tkS 2 lq false))) 5, .box bk1 [.int .u16 0, .slice none 0 0] 88, .box bk31 [.int .u16 ((UInt16.toNat (UInt16.ofNat (nbV 2 lq false)) : Nat) : Int), .slice ao42 (List.length (ldO 2 0 65535 (dkR 2 lq false) (tkS 2 lq false))) cp43] 88] En55 Hv53 fun ac56 wo57 En58 Hv59 => ?_
 refine f_e ?_
 refine then_normal ?_
 refine wp_seq ?_
 refine region_from ?_
 refine d_k [2,3,4,5,17] [] 1 En58 fun ac60 En61 => ?_
 refine f_o ?_
 refine c_l [0] (M := [.box bk10 [.slice ta44 (List.length (ldR 2 0 65535 (dkR 2 lq false) (tkS 2 lq false))) tc45, .bool (ldS 2 0 65535 (dkR 2 lq false) (tkS 2 lq false)), .bool false] 154]) En61 Hv59 (fun hM62 => dend_go _ bk10 ta44 (List.length (ldR 2 0 65535 (dkR 2 lq false) (tkS 2 lq false))) tc45 (ldS 2 0 65535 (dkR 2 lq false) (tkS 2 lq false)) false hM62) ?_
 rintro _ wo63 ⟨rfl, he64⟩
 refine ⟨_, _, [.box bk10 [.slice ta44 (List.length (ldR 2 0 65535 (dkR 2 lq false) (tkS 2 lq false))) tc45, .bool (ldS 2 0 65535 (dkR 2 lq false) (tkS 2 lq false)), .bool false] 154, .vec ao42 cp43 1 (bys (ldO 2 0 65535 (dkR 2 lq false) (tkS 2 lq false))) 5, .box bk1 [.int .u16 0, .slice none 0 0] 88, .box bk31 [.int .u16 ((UInt16.toNat (UInt16.ofNat (nbV 2 lq false)) : Nat) : Int), .slice ao42 (List.length (ldO 2 0 65535 (dkR 2 lq false) (tkS 2 lq false))) cp43] 88], rfl, he64, by kernel_rfl, fun ac66 En67 Hv68 => ?_⟩
 refine d_e [2,3,4,5,6] [] En67 fun ac69 En70 => ?_
 refine then_normal ?_
 refine wp_seq ?_
 refine d_s [2,3,4,5,6,20] [] En70 fun ac71 En72 => ?_
 refine c_n (endV (ldS 2 0 65535 (dkR 2 lq false) (tkS 2 lq false)) (List.length (ldR 2 0 65535 (dkR 2 lq false) (tkS 2 lq false))) false) (0 : Int) En72 (fun hc73 => ?_) (fun hc73 => ?_)
 ·
  refine wp_seq ?_
  refine region_from ?_
  refine d_k [2,3,4,5,6,21,22] [] 2 En72 fun ac74 En75 => ?_
  refine f_o ?_
  refine m_g 2 0 2 [.int .u16 0, .slice none 0 0] [.int .u16 0, .slice none 0 0] [.box bk10 [.slice ta44 (List.length (ldR 2 0 65535 (dkR 2 lq false) (tkS 2 lq false))) tc45, .bool (ldS 2 0 65535 (dkR 2 lq false) (tkS 2 lq false)), .bool false] 154, .vec ao42 cp43 1 (bys (ldO 2 0 65535 (dkR 2 lq false) (tkS 2 lq false))) 5, .box bk1 [.int .u16 0, .slice none 0 0] 88, .box bk31 [.int .u16 ((UInt16.toNat (UInt16.ofNat (nbV 2 lq false)) : Nat) : Int), .slice ao42 (List.length (ldO 2 0 65535 (dkR 2 lq false) (tkS 2 lq false))) cp43] 88] En75 Hv68 rfl rfl (by simp) (one_all (by kernel_rfl)) rfl rfl fun ac76 wo77 En78 Hv79 => ?_
  refine d_e [2,3,4,5,6] [] En78 fun ac80 En81 => ?_
  refine then_normal ?_
  refine wp_ret ?_
  refine then_ret ?_
  refine d_cell_tmp (v := .agg #[.int .u16 0, .slice none 0 0]) (x := .int .i64 (endV (ldS 2 0 65535 (dkR 2 lq false) (tkS 2 lq false)) (List.length (ldR 2 0 65535 (dkR 2 lq false) (tkS 2 lq false))) false)) (t := 2) (T := 88) (ad := ⟨bk1, 0, none⟩) (u := 3) En81 (by kernel_rfl) (by kernel_rfl) (Ev.cellAgg (t := 88) (k := 2) (off := 0) (m := 2) (xs := [.int .u16 0, .slice none 0 0]) Hv79 rfl rfl rfl (by kernel_rfl) (by kernel_rfl)) (by kernel_rfl) ?_
  have eA : gotA (dextM lq false false) = endV (ldS 2 0 65535 (dkR 2 lq false) (tkS 2 lq false)) (List.length (ldR 2 0 65535 (dkR 2 lq false) (tkS 2 lq false))) false := rfl
  rw [gotV_n eA (by assumption), eA]
  have Hv82 : Ev w [] wo77 [.box bk10 [.slice ta44 (List.length (ldR 2 0 65535 (dkR 2 lq false) (tkS 2 lq false))) tc45, .bool (ldS 2 0 65535 (dkR 2 lq false) (tkS 2 lq false)), .bool false] 154, .vec ao42 cp43 1 (bys (ldO 2 0 65535 (dkR 2 lq false) (tkS 2 lq false))) 5, .box bk1 [.int .u16 0, .slice none 0 0] 88, .box bk31 [.int .u16 ((UInt16.toNat (UInt16.ofNat (nbV 2 lq false)) : Nat) : Int), .slice ao42 (List.length (ldO 2 0 65535 (dkR 2 lq false) (tkS 2 lq false))) cp43] 88, .vec none 0 1 (bys []) 5] := Ev.nil (sz := 1) (T := 5) Hv79
  exact ⟨0, none, 0, [], rfl, Hv82.pk [4], rfl, (Nat.zero_le _)⟩
 ·
  refine wp_skip ?_
  refine then_normal ?_
  refine wp_seq ?_
  refine region_from ?_
  refine f_o ?_
  refine m_a 3 0 2 [.int .u16 ((UInt16.toNat (UInt16.ofNat (nbV 2 lq false)) : Nat) : Int), .slice ao42 (List.length (ldO 2 0 65535 (dkR 2 lq false) (tkS 2 lq false))) cp43] En72 Hv68 rfl rfl rfl fun ac83 En84 => ?_
  refine d_k [2,3,4,5,6,23,24] [] 2 En84 fun ac85 En86 => ?_
  refine f_o ?_
  refine m_g 2 0 2 [.int .u16 ((UInt16.toNat (UInt16.ofNat (nbV 2 lq false)) : Nat) : Int), .slice ao42 (List.length (ldO 2 0 65535 (dkR 2 lq false) (tkS 2 lq false))) cp43] [.int .u16 ((UInt16.toNat (UInt16.ofNat (nbV 2 lq false)) : Nat) : Int), .slice ao42 (List.length (ldO 2 0 65535 (dkR 2 lq false) (tkS 2 lq false))) cp43] [.box bk10 [.slice ta44 (List.length (ldR 2 0 65535 (dkR 2 lq false) (tkS 2 lq false))) tc45, .bool (ldS 2 0 65535 (dkR 2 lq false) (tkS 2 lq false)), .bool false] 154, .vec ao42 cp43 1 (bys (ldO 2 0 65535 (dkR 2 lq false) (tkS 2 lq false))) 5, .box bk1 [.int .u16 ((UInt16.toNat (UInt16.ofNat (nbV 2 lq false)) : Nat) : Int), .slice ao42 (List.length (ldO 2 0 65535 (dkR 2 lq false) (tkS 2 lq false))) cp43] 88, .box bk31 [.int .u16 ((UInt16.toNat (UInt16.ofNat (nbV 2 lq false)) : Nat) : Int), .slice ao42 (List.length (ldO 2 0 65535 (dkR 2 lq false) (tkS 2 lq false))) cp43] 88] En86 Hv68 rfl rfl (by simp) (one_all (by kernel_rfl)) rfl rfl fun ac87 wo88 En89 Hv90 => ?_
  refine d_e [2,3,4,5,6] [] En89 fun ac91 En92 => ?_
  refine then_normal ?_
  refine wp_ret ?_
  refine d_cell_tmp (v := .agg #[.int .u16 ((UInt16.toNat (UInt16.ofNat (nbV 2 lq false)) : Nat) : Int), .slice ao42 (List.length (ldO 2 0 65535 (dkR 2 lq false) (tkS 2 lq false))) cp43]) (x := .int .i64 (endV (ldS 2 0 65535 (dkR 2 lq false) (tkS 2 lq false)) (List.length (ldR 2 0 65535 (dkR 2 lq false) (tkS 2 lq false))) false)) (t := 2) (T := 88) (ad := ⟨bk1, 0, none⟩) (u := 3) En92 (by kernel_rfl) (by kernel_rfl) (Ev.cellAgg (t := 88) (k := 2) (off := 0) (m := 2) (xs := [.int .u16 ((UInt16.toNat (UInt16.ofNat (nbV 2 lq false)) : Nat) : Int), .slice ao42 (List.length (ldO 2 0 65535 (dkR 2 lq false) (tkS 2 lq false))) cp43]) Hv90 rfl rfl rfl (by kernel_rfl) (by kernel_rfl)) (by kernel_rfl) ?_
  have eA : gotA (dextM lq false false) = endV (ldS 2 0 65535 (dkR 2 lq false) (tkS 2 lq false)) (List.length (ldR 2 0 65535 (dkR 2 lq false) (tkS 2 lq false))) false := rfl
  rw [gotV_0 (eA.trans (by first | assumption | exact Classical.not_not.1 (by assumption))), eA]
  exact ⟨(UInt16.ofNat (nbV 2 lq false)), ao42, cp43, (ldO 2 0 65535 (dkR 2 lq false) (tkS 2 lq false)), rfl, Hv90.pk [1], rfl, (Nat.le_of_succ_le (ldO_32 (by decide) _ _))⟩

theorem dgetticket_go (w : World) (aq : Option Addr) (nq cq : Nat) (lq : List UInt8) (eq : nq = List.length lq) (iq : InB w [] aq cq lq) : Calls Try.prog 87 #[.slice aq nq cq] w fun e w' => ∃ xva xvb oac occ blc oad ocd bld oae oce xse, e = .returned (.tuple #[.agg #[uv32 xva, uv32 xvb, .slice oac (List.length blc) occ, .slice oad (List.length bld) ocd, .slice oae (List.length xse) oce], .int .i64 (gotA (dticM lq false false))]) ∧ Ev w [] w' [.vec oac occ 1 (bys blc) 5, .vec oad ocd 1 (bys bld) 5, .vec oae oce 2 (List.flatMap fExt xse) 147, .grp (List.flatMap innExt xse)] ∧ (xva, xvb, blc, bld, List.map (fun y : RExt => (y.1, y.2.1.l)) xse) = gotV (0, 0, [], [], []) (dticM lq false false) ∧ List.length blc ≤ 4294967296 ∧ List.length bld ≤ 4294967296 ∧ List.length xse ≤ 4294967296 ∧ ∀ y ∈ xse, List.length y.2.1.l ≤ 140737488351232 := by
 subst eq
 refine d_0 [(0, .slice aq (List.length lq) cq)] 35 Go.Proofs.Try.func87 Go.Proofs.Try.ntmps87 (Heap.nil _) fun act0 En0 Hv0 => ?_
 refine wp_seq ?_
 refine region_from ?_
 refine f_o ?_
 refine m_z 86 [.int .u32 0, .int .u32 0, .slice none 0 0, .slice none 0 0, .slice none 0 0] En0 Hv0 fun ac2 wo3 bk1 En4 Hv5 => ?_
 refine d_e [0,2,3] [] En4 fun ac6 En7 => ?_
 refine then_normal ?_
 refine wp_seq ?_
 refine region_from ?_
 refine d_k [2,3,8] [] 2 En7 fun ac8 En9 => ?_
 refine f_o ?_
 refine m_m 154 [.slice aq (List.length lq) cq, .bool false, .bool false] En9 Hv5 fun ac11 wo12 bk10 En13 Hv14 => ?_
 refine d_e [2,3,4] [] En13 fun ac15 En16 => ?_
 refine then_normal ?_
 refine wp_seq ?_
 refine region_from ?_
 refine d_k [2,3,4,10] [] 1 En16 fun ac17 En18 => ?_
 refine f_o ?_
 refine c_l [1] (M := [.box bk10 [.slice aq (List.length lq) cq, .bool false, .bool false] 154]) En18 Hv14 (fun hM22 => dnumber_go _ bk10 4 (by omega) aq cq lq false false ((iq.ev Hv14).pick [1] (by kernel_rfl)) hM22) ?_
 rintro _ wo23 ⟨ta19, tc20, rfl, he24, hs21⟩
 refine ⟨_, _, [.box bk10 [.slice ta19 (List.length (dkR 4 lq false)) tc20, .bool (tkS 4 lq false), .bool false] 154, .box bk1 [.int .u32 0, .int .u32 0, .slice none 0 0, .slice none 0 0, .slice none 0 0] 86], rfl, he24, by kernel_rfl, fun ac26 En27 Hv28 => ?_⟩
 refine d_k [2,3,4,13] [(2, g_i .u32 (Go.Dbr.nat_to_u32 (a := ((nbV 4 lq false : Nat) : Int)) (n := nbV 4 lq false) rfl))] 4 En27 fun ac29 En30 => ?_
 refine f_o ?_
 refine m_z 86 [.int .u32 0, .int .u32 0, .slice none 0 0, .slice none 0 0, .slice none 0 0] En30 Hv28 fun ac32 wo33 bk31 En34 Hv35 => ?_
 refine f_o ?_
 refine m_g 2 0 5 [.int .u32 ((UInt32.toNat (UInt32.ofNat (nbV 4 lq false)) : Nat) : Int), .int .u32 0, .slice none 0 0, .slice none 0 0, .slice none 0 0] [.int .u32 ((UInt32.toNat (UInt32.ofNat (nbV 4 lq false)) : Nat) : Int), .int .u32 0, .slice none 0 0, .slice none 0 0, .slice none 0 0] [.box bk10 [.slice ta19 (List.length (dkR 4 lq false)) tc20, .bool (tkS 4 lq false), .bool false] 154, .box bk1 [.int .u32 0, .int .u32 0, .slice none 0 0, .slice none 0 0, .slice none 0 0] 86, .box bk31 [.int .u32 ((UInt32.toNat (UInt32.ofNat (nbV 4 lq false)) : Nat) : Int), .int .u32 0, .slice none 0 0, .slice none 0 0, .slice none 0 0] 86] En34 Hv35 rfl rfl (by simp) (one_all (by kernel_rfl)) rfl rfl fun ac36 wo37 En38 Hv39 => ?_
 refine f_e ?_
 refine then_normal ?_
 refine wp_seq ?_
 refine region_from ?_
 refine d_k [2,3,4,5,14] [] 1 En38 fun ac40 En41 => ?_
 refine f_o ?_
 refine c_l [0] (M := [.box bk10 [.slice ta19 (List.length (dkR 4 lq false)) tc20, .bool (tkS 4 lq false), .bool false] 154]) En41 Hv39 (fun hM45 => dnumber_go _ bk10 4 (by omega) ta19 tc20 (dkR 4 lq false) (tkS 4 lq false) false (hs21 _ _ ((iq.ev Hv39).pick [0] (by kernel_rfl))) hM45) ?_
 rintro _ wo46 ⟨ta42, tc43, rfl, he47, hs44⟩
 refine ⟨_, _, [.box bk10 [.slice ta42 (List.length (dkR 4 (dkR 4 lq false) (tkS 4 lq false))) tc43, .bool (tkS 4 (dkR 4 lq false) (tkS 4 lq false)), .bool false] 154, .box bk1 [.int .u32 0, .int .u32 0, .slice none 0 0, .slice none 0 0, .slice none 0 0] 86, .box bk31 [.int .u32 ((UInt32.toNat (UInt32.ofNat (nbV 4 lq false)) : Nat) : Int), .int .u32 0, .slice none 0 0, .slice none 0 0, .slice none 0 0] 86], rfl, he47, by kernel_rfl, fun ac49 En50 Hv51 => ?_⟩
 refine d_k [2,3,4,5,16,17] [(2, g_i .u32 (Go.Dbr.nat_to_u32 (a := ((nbV 4 (dkR 4 lq false) (tkS 4 lq false) : Nat) : Int)) (n := nbV 4 (dkR 4 lq false) (tkS 4 lq false)) rfl))] 4 En50 fun ac52 En53 => ?_
 refine f_o ?_
 refine m_s 2 [.box bk10 [.slice ta42 (List.length (dkR 4 (dkR 4 lq false) (tkS 4 lq false))) tc43, .bool (tkS 4 (dkR 4 lq false) (tkS 4 lq false)), .bool false] 154, .box bk1 [.int .u32 0, .int .u32 0, .slice none 0 0, .slice none 0 0, .slice none 0 0] 86, .box bk31 [.int .u32 ((UInt32.toNat (UInt32.ofNat (nbV 4 lq false)) : Nat) : Int), .int .u32 ((UInt32.toNat (UInt32.ofNat (nbV 4 (dkR 4 lq false) (tkS 4 lq false))) : Nat) : Int), .slice none 0 0, .slice none 0 0, .slice none 0 0] 86] En53 Hv51 fun ac54 wo55 En56 Hv57 => ?_
 refine f_e ?_
 refine then_normal ?_
 refine wp_seq ?_
 refine region_from ?_
 refine d_k [2,3,4,5,18] [] 1 En56 fun ac58 En59 => ?_
 refine f_o ?_
 refine c_l [0] (M := [.box bk10 [.slice ta42 (List.length (dkR 4 (dkR 4 lq false) (tkS 4 lq false))) tc43, .bool (tkS 4 (dkR 4 lq false) (tkS 4 lq false)), .bool false] 154]) En59 Hv57 (fun hM65 => dlist_go _ bk10 1 (by omega) 0 255 (by omega) (by omega) ta42 tc43 (dkR 4 (dkR 4 lq false) (tkS 4 lq false)) (tkS 4 (dkR 4 lq false) (tkS 4 lq false)) false (hs44 _ _ (hs21 _ _ ((iq.ev Hv57).pick [0] (by kernel_rfl)))) hM65) ?_
 rintro _ wo66 ⟨ao60, cp61, ta62, tc63, rfl, he67, hs64⟩
 refine ⟨_, _, [.box bk10 [.slice ta62 (List.length (ldR 1 0 255 (dkR 4 (dkR 4 lq false) (tkS 4 lq false)) (tkS 4 (dkR 4 lq false) (tkS 4 lq false)))) tc63, .bool (ldS 1 0 255 (dkR 4 (dkR 4 lq false) (tkS 4 lq false)) (tkS 4 (dkR 4 lq false) (tkS 4 lq false))), .bool false] 154, .vec ao60 cp61 1 (bys (ldO 1 0 255 (dkR 4 (dkR 4 lq false) (tkS 4 lq false)) (tkS 4 (dkR 4 lq false) (tkS 4 lq false)))) 5, .box bk1 [.int .u32 0, .int .u32 0, .slice none 0 0, .slice none 0 0, .slice none 0 0] 86, .box bk31 [.int .u32 ((UInt32.toNat (UInt32.ofNat (nbV 4 lq false)) : Nat) : Int), .int .u32 ((UInt32.toNat (UInt32.ofNat (nbV 4 (dkR 4 lq false) (tkS 4 lq false))) : Nat) : Int), .slice none 0 0, .slice none 0 0, .slice none 0 0] 86], rfl, he67, by kernel_rfl, fun ac69 En70 Hv71 => ?_⟩
 refine d_k [2,3,4,5,19,20] [] 3 En70 fun ac72 En73 => ?_
 refine f_o ?_
 refine m_s 3 [.box bk10 [.slice ta62 (List.length (ldR 1 0 255 (dkR 4 (dkR 4 lq false) (tkS 4 lq false)) (tkS 4 (dkR 4 lq false) (tkS 4 lq false)))) tc63, .bool (ldS 1 0 255 (dkR 4 (dkR 4 lq false) (tkS 4 lq false)) (tkS 4 (dkR 4 lq false) (tkS 4 lq false))), .bool false] 154, .vec ao60 cp61 1 (bys (ldO 1 0 255 (dkR 4 (dkR 4 lq false) (tkS 4 lq false)) (tkS 4 (dkR 4 lq false) (tkS 4 lq false)))) 5, .box bk1 [.int .u32 0, .int .u32 0, .slice none 0 0, .slice none 0 0, .slice none 0 0] 86, .box bk31 [.int .u32 ((UInt32.toNat (UInt32.ofNat (nbV 4 lq false)) : Nat) : Int), .int .u32 ((UInt32.toNat (UInt32.ofNat (nbV 4 (dkR 4 lq false) (tkS 4 lq false))) : Nat) : Int), .slice ao60 (List.length (ldO 1 0 255 (dkR 4 (dkR 4 lq false) (tkS 4 lq false)) (tkS 4 (dkR 4 lq false) (tkS 4 lq false)))) cp61, .slice none 0 0, .slice none 0 0] 86] En73 Hv71 fun ac74 wo75 En76 Hv77 => ?_
 refine f_e ?_
 refine then_normal ?_
 refine wp_seq ?_
 refine region_from ?_
 refine d_k [2,3,4,5,21] [] 1 En76 fun ac78 En79 => ?_
 refine f_o ?_
 refine c_l [0] (M := [.box bk10 [.slice ta62 (List.length (ldR 1 0 255 (dkR 4 (dkR 4 lq false) (tkS 4 lq false)) (tkS 4 (dkR 4 lq false) (tkS 4 lq false)))) tc63, .bool (ldS 1 0 255 (dkR 4 (dkR 4 lq false) (tkS 4 lq false)) (tkS 4 (dkR 4 lq false) (tkS 4 lq false))), .bool false] 154]) En79 Hv77 (fun hM85 => dlist_go _ bk10 2 (by omega) 1 65535 (by omega) (by omega) ta62 tc63 (ldR 1 0 255 (dkR 4 (dkR 4 lq false) (tkS 4 lq false)) (tkS 4 (dkR 4 lq false) (tkS 4 lq false))) (ldS 1 0 255 (dkR 4 (dkR 4 lq false) (tkS 4 lq false)) (tkS 4 (dkR 4 lq false) (tkS 4 lq false))) false (hs64 _ _ (hs44 _ _ (hs21 _ _ ((iq.ev Hv77).pick [0] (by kernel_rfl))))) hM85) ?_
 rintro _ wo86 ⟨ao80, cp81, ta82, tc83, rfl, he87, hs84⟩
 refine ⟨_, _, [.box bk10 [.slice ta82 (List.length (ldR 2 1 65535 (ldR 1 0 255 (dkR 4 (dkR 4 lq false) (tkS 4 lq false)) (tkS 4 (dkR 4 lq false) (tkS 4 lq false))) (ldS 1 0 255 (dkR 4 (dkR 4 lq false) (tkS 4 lq false)) (tkS 4 (dkR 4 lq false) (tkS 4 lq false))))) tc83, .bool (ldS 2 1 65535 (ldR 1 0 255 (dkR 4 (dkR 4 lq false) (tkS 4 lq false)) (tkS 4 (dkR 4 lq false) (tkS 4 lq false))) (ldS 1 0 255 (dkR 4 (dkR 4 lq false) (tkS 4 lq false)) (tkS 4 (dkR 4 lq false) (tkS 4 lq false)))), .bool false] 154, .vec ao80 cp81 1 (bys (ldO 2 1 65535 (ldR 1 0 255 (dkR 4 (dkR 4 lq false) (tkS 4 lq false)) (tkS 4 (dkR 4 lq false) (tkS 4 lq false))) (ldS 1 0 255 (dkR 4 (dkR 4 lq false) (tkS 4 lq false)) (tkS 4 (dkR 4 lq false) (tkS 4 lq false))))) 5, .vec ao60 cp61 1 (bys (ldO 1 0 255 (dkR 4 (dkR 4 lq false) (tkS 4 lq false)) (tkS 4 (dkR 4 lq false) (tkS 4 lq false)))) 5, .box bk1 [.int .u32 0, .int .u32 0, .slice none 0 0, .slice none 0 0, .slice none 0 0] 86, .box bk31 [.int .u32 ((UInt32.toNat (UInt32.ofNat (nbV 4 lq false)) : Nat) : Int), .int .u32 ((UInt32.toNat (UInt32.ofNat (nbV 4 (dkR 4 lq false) (tkS 4 lq false))) : Nat) : Int), .slice ao60 (List.length (ldO 1 0 255 (dkR 4 (dkR 4 lq false) (tkS 4 lq false)) (tkS 4 (dkR 4 lq false) (tkS 4 lq false)))) cp61, .slice none 0 0, .slice none 0 0] 86], rfl, he87, by kernel_rfl, fun ac89 En90 Hv91 => ?_⟩
 refine d_k [2,3,4,5,22,23] [] 3 En90 fun ac92 En93 => ?_
 refine f_o ?_
 refine m_s 4 [.box bk10 [.slice ta82 (List.length (ldR 2 1 65535 (ldR 1 0 255 (dkR 4 (dkR 4 lq false) (tkS 4 lq false)) (tkS 4 (dkR 4 lq false) (tkS 4 lq false))) (ldS 1 0 255 (dkR 4 (dkR 4 lq false) (tkS 4 lq false)) (tkS 4 (dkR 4 lq false) (tkS 4 lq false))))) tc83, .bool (ldS 2 1 65535 (ldR 1 0 255 (dkR 4 (dkR 4 lq false) (tkS 4 lq false)) (tkS 4 (dkR 4 lq false) (tkS 4 lq false))) (ldS 1 0 255 (dkR 4 (dkR 4 lq false) (tkS 4 lq false)) (tkS 4 (dkR 4 lq false) (tkS 4 lq false)))), .bool false] 154, .vec ao80 cp81 1 (bys (ldO 2 1 65535 (ldR 1 0 255 (dkR 4 (dkR 4 lq false) (tkS 4 lq false)) (tkS 4 (dkR 4 lq false) (tkS 4 lq false))) (ldS 1 0 255 (dkR 4 (dkR 4 lq false) (tkS 4 lq false)) (tkS 4 (dkR 4 lq false) (tkS 4 lq false))))) 5, .vec ao60 cp61 1 (bys (ldO 1 0 255 (dkR 4 (dkR 4 lq false) (tkS 4 lq false)) (tkS 4 (dkR 4 lq false) (tkS 4 lq false)))) 5, .box bk1 [.int .u32 0, .int .u32 0, .slice none 0 0, .slice none 0 0, .slice none 0 0] 86, .box bk31 [.int .u32 ((UInt32.toNat (UInt32.ofNat (nbV 4 lq false)) : Nat) : Int), .int .u32 ((UInt32.toNat (UInt32.ofNat (nbV 4 (dkR 4 lq false) (tkS 4 lq false))) : Nat) : Int), .slice ao60 (List.length (ldO 1 0 255 (dkR 4 (dkR 4 lq false) (tkS 4 lq false)) (tkS 4 (dkR 4 lq false) (tkS 4 lq false)))) cp61, .slice ao80 (List.length (ldO 2 1 65535 (ldR 1 0 255 (dkR 4 (dkR 4 lq false) (tkS 4 lq false)) (tkS 4 (dkR 4 lq false) (tkS 4 lq false))) (ldS 1 0 255 (dkR 4 (dkR 4 lq false) (tkS 4 lq false)) (tkS 4 (dkR 4 lq false) (tkS 4 lq false))))) cp81, .slice none 0 0] 86] En93 Hv91 fun ac94 wo95 En96 Hv97 => ?_
 refine f_e ?_
 refine then_normal ?_
 refine wp_seq ?_
 refine region_from ?_
 refine d_k [2,3,4,5,24] [] 1 En96 fun ac98 En99 => ?_
 refine f_o ?_
 refine c_l [0] (M := [.box bk10 [.slice ta82 (List.length (ldR 2 1 65535 (ldR 1 0 255 (dkR 4 (dkR 4 lq false) (tkS 4 lq false)) (tkS 4 (dkR 4 lq false) (tkS 4 lq false))) (ldS 1 0 255 (dkR 4 (dkR 4 lq false) (tkS 4 lq false)) (tkS 4 (dkR 4 lq false) (tkS 4 lq false))))) tc83, .bool (ldS 2 1 65535 (ldR 1 0 255 (dkR 4 (dkR 4 lq false) (tkS 4 lq false)) (tkS 4 (dkR 4 lq false) (tkS 4 lq false))) (ldS 1 0 255 (dkR 4 (dkR 4 lq false) (tkS 4 lq false)) (tkS 4 (dkR 4 lq false) (tkS 4 lq false)))), .bool false] 154]) En99 Hv97 (fun hM109 => dexts_go _ bk10 ta82 tc83 (ldR 2 1 65535 (ldR 1 0 255 (dkR 4 (dkR 4 lq false) (tkS 4 lq false)) (tkS 4 (dkR 4 lq false) (tkS 4 lq false))) (ldS 1 0 255 (dkR 4 (dkR 4 lq false) (tkS 4 lq false)) (tkS 4 (dkR 4 lq false) (tkS 4 lq false)))) (ldS 2 1 65535 (ldR 1 0 255 (dkR 4 (dkR 4 lq false) (tkS 4 lq false)) (tkS 4 (dkR 4 lq false) (tkS 4 lq false))) (ldS 1 0 255 (dkR 4 (dkR 4 lq false) (tkS 4 lq false)) (tkS 4 (dkR 4 lq false) (tkS 4 lq false)))) false (hs84 _ _ (hs64 _ _ (hs44 _ _ (hs21 _ _ ((iq.ev Hv97).pick [0] (by kernel_rfl)))))) hM109) ?_
 rintro _ wo110 ⟨ta100, tc101, oa104, oc105, xs106, rfl, he111, hs102, hpu103, hf107, hf108⟩
 refine ⟨_, _, [.box bk10 [.slice ta100 (List.length ((dextsM (ldR 2 1 65535 (ldR 1 0 255 (dkR 4 (dkR 4 lq false) (tkS 4 lq false)) (tkS 4 (dkR 4 lq false) (tkS 4 lq false))) (ldS 1 0 255 (dkR 4 (dkR 4 lq false) (tkS 4 lq false)) (tkS 4 (dkR 4 lq false) (tkS 4 lq false)))) (ldS 2 1 65535 (ldR 1 0 255 (dkR 4 (dkR 4 lq false) (tkS 4 lq false)) (tkS 4 (dkR 4 lq false) (tkS 4 lq false))) (ldS 1 0 255 (dkR 4 (dkR 4 lq false) (tkS 4 lq false)) (tkS 4 (dkR 4 lq false) (tkS 4 lq false)))) false).2.1)) tc101, .bool ((dextsM (ldR 2 1 65535 (ldR 1 0 255 (dkR 4 (dkR 4 lq false) (tkS 4 lq false)) (tkS 4 (dkR 4 lq false) (tkS 4 lq false))) (ldS 1 0 255 (dkR 4 (dkR 4 lq false) (tkS 4 lq false)) (tkS 4 (dkR 4 lq false) (tkS 4 lq false)))) (ldS 2 1 65535 (ldR 1 0 255 (dkR 4 (dkR 4 lq false) (tkS 4 lq false)) (tkS 4 (dkR 4 lq false) (tkS 4 lq false))) (ldS 1 0 255 (dkR 4 (dkR 4 lq false) (tkS 4 lq false)) (tkS 4 (dkR 4 lq false) (tkS 4 lq false)))) false).2.2.1), .bool ((dextsM (ldR 2 1 65535 (ldR 1 0 255 (dkR 4 (dkR 4 lq false) (tkS 4 lq false)) (tkS 4 (dkR 4 lq false) (tkS 4 lq false))) (ldS 1 0 255 (dkR 4 (dkR 4 lq false) (tkS 4 lq false)) (tkS 4 (dkR 4 lq false) (tkS 4 lq false)))) (ldS 2 1 65535 (ldR 1 0 255 (dkR 4 (dkR 4 lq false) (tkS 4 lq false)) (tkS 4 (dkR 4 lq false) (tkS 4 lq false))) (ldS 1 0 255 (dkR 4 (dkR 4 lq false) (tkS 4 lq false)) (tkS 4 (dkR 4 lq false) (tkS 4 lq false)))) false).2.2.2)] 154, .vec oa104 oc105 2 (List.flatMap fExt xs106) 147, .grp (List.flatMap innExt xs106), .vec ao80 cp81 1 (bys (ldO 2 1 65535 (ldR 1 0 255 (dkR 4 (dkR 4 lq false) (tkS 4 lq false)) (tkS 4 (dkR 4 lq false) (tkS 4 lq false))) (ldS 1 0 255 (dkR 4 (dkR 4 lq false) (tkS 4 lq false)) (tkS 4 (dkR 4 lq false) (tkS 4 lq false))))) 5, .vec ao60 cp61 1 (bys (ldO 1 0 255 (dkR 4 (dkR 4 lq false) (tkS 4 lq false)) (tkS 4 (dkR 4 lq false) (tkS 4 lq false)))) 5, .box bk1 [.int .u32 0, .int .u32 0, .slice none 0 0, .slice none 0 0, .slice none 0 0] 86, .box bk31 [.int .u32 ((UInt32.toNat (UInt32.ofNat (nbV 4 lq false)) : Nat) : Int), .int .u32 ((UInt32.toNat (UInt32.ofNat (nbV 4 (dkR 4 lq false) (tkS 4 lq false))) : Nat) : Int), .slice ao60 (List.length (ldO 1 0 255 (dkR 4 (dkR 4 lq false) (tkS 4 lq false)) (tkS 4 (dkR 4 lq false) (tkS 4 lq false)))) cp61, .slice ao80 (List.length (ldO 2 1 65535 (ldR 1 0 255 (dkR 4 (dkR 4 lq false) (tkS 4 lq false)) (tkS 4 (dkR 4 lq false) (tkS 4 lq false))) (ldS 1 0 255 (dkR 4 (dkR 4 lq false) (tkS 4 lq false)) (tkS 4 (dkR 4 lq false) (tkS 4 lq false))))) cp81, .slice none 0 0] 86], rfl, he111, by kernel_rfl, fun ac113 En114 Hv115 => ?_⟩
 refine d_k [2,3,4,5,25,26] [] 3 En114 fun ac116 En117 => ?_
 refine f_o ?_
 refine m_s 6 [.box bk10 [.slice ta100 (List.length ((dextsM (ldR 2 1 65535 (ldR 1 0 255 (dkR 4 (dkR 4 lq false) (tkS 4 lq false)) (tkS 4 (dkR 4 lq false) (tkS 4 lq false))) (ldS 1 0 255 (dkR 4 (dkR 4 lq false) (tkS 4 lq false)) (tkS 4 (dkR 4 lq false) (tkS 4 lq false)))) (ldS 2 1 65535 (ldR 1 0 255 (dkR 4 (dkR 4 lq false) (tkS 4 lq false)) (tkS 4 (dkR 4 lq false) (tkS 4 lq false))) (ldS 1 0 255 (dkR 4 (dkR 4 lq false) (tkS 4 lq false)) (tkS 4 (dkR 4 lq false) (tkS 4 lq false)))) false).2.1)) tc101, .bool ((dextsM (ldR 2 1 65535 (ldR 1 0 255 (dkR 4 (dkR 4 lq false) (tkS 4 lq false)) (tkS 4 (dkR 4 lq false) (tkS 4 lq false))) (ldS 1 0 255 (dkR 4 (dkR 4 lq false) (tkS 4 lq false)) (tkS 4 (dkR 4 lq false) (tkS 4 lq false)))) (ldS 2 1 65535 (ldR 1 0 255 (dkR 4 (dkR 4 lq false) (tkS 4 lq false)) (tkS 4 (dkR 4 lq false) (tkS 4 lq false))) (ldS 1 0 255 (dkR 4 (dkR 4 lq false) (tkS 4 lq false)) (tkS 4 (dkR 4 lq false) (tkS 4 lq false)))) false).2.2.1), .bool ((dextsM (ldR 2 1 65535 (ldR 1 0 255 (dkR 4 (dkR 4 lq false) (tkS 4 lq false)) (tkS 4 (dkR 4 lq false) (tkS 4 lq false))) (ldS 1 0 255 (dkR 4 (dkR 4 lq false) (tkS 4 lq false)) (tkS 4 (dkR 4 lq false) (tkS 4 lq false)))) (ldS 2 1 65535 (ldR 1 0 255 (dkR 4 (dkR 4 lq false) (tkS 4 lq false)) (tkS 4 (dkR 4 lq false) (tkS 4 lq false))) (ldS 1 0 255 (dkR 4 (dkR 4 lq false) (tkS 4 lq false)) (tkS 4 (dkR 4 lq false) (tkS 4 lq false)))) false).2.2.2)] 154, .vec oa104 oc105 2 (List.flatMap fExt xs106) 147, .grp (List.flatMap innExt xs106), .vec ao80 cp81 1 (bys (ldO 2 1 65535 (ldR 1 0 255 (dkR 4 (dkR 4 lq false) (tkS 4 lq false)) (tkS 4 (dkR 4 lq false) (tkS 4 lq false))) (ldS 1 0 255 (dkR 4 (dkR 4 lq false) (tkS 4 lq false)) (tkS 4 (dkR 4 lq false) (tkS 4 lq false))))) 5, .vec ao60 cp61 1 (bys (ldO 1 0 255 (dkR 4 (dkR 4 lq false) (tkS 4 lq false)) (tkS 4 (dkR 4 lq false) (tkS 4 lq false)))) 5, .box bk1 [.int .u32 0, .int .u32 0, .slice none 0 0, .slice none 0 0, .slice none 0 0] 86, .box bk31 [.int .u32 ((UInt32.toNat (UInt32.ofNat (nbV 4 lq false)) : Nat) : Int), .int .u32 ((UInt32.toNat (UInt32.ofNat (nbV 4 (dkR 4 lq false) (tkS 4 lq false))) : Nat) : Int), .slice ao60 (List.length (ldO 1 0 255 (dkR 4 (dkR 4 lq false) (tkS 4 lq false)) (tkS 4 (dkR 4 lq false) (tkS 4 lq false)))) cp61, .slice ao80 (List.length (ldO 2 1 65535 (ldR 1 0 255 (dkR 4 (dkR 4 lq false) (tkS 4 lq false)) (tkS 4 (dkR 4 lq false) (tkS 4 lq false))) (ldS 1 0 255 (dkR 4 (dkR 4 lq false) (tkS 4 lq false)) (tkS 4 (dkR 4 lq false) (tkS 4 lq false))))) cp81, .slice oa104 (List.length xs106) oc105] 86] En117 Hv115 fun ac118 wo119 En120 Hv121 => ?_
 refine f_e ?_
 refine then_normal ?_
 refine wp_seq ?_
 refine region_from ?_
 refine d_k [2,3,4,5,27] [] 1 En120 fun ac122 En123 => ?_
 refine f_o ?_
 refine c_l [0] (M := [.box bk10 [.slice ta100 (List.length ((dextsM (ldR 2 1 65535 (ldR 1 0 255 (dkR 4 (dkR 4 lq false) (tkS 4 lq false)) (tkS 4 (dkR 4 lq false) (tkS 4 lq false))) (ldS 1 0 255 (dkR 4 (dkR 4 lq false) (tkS 4 lq false)) (tkS 4 (dkR 4 lq false) (tkS 4 lq false)))) (ldS 2 1 65535 (ldR 1 0 255 (dkR 4 (dkR 4 lq false) (tkS 4 lq false)) (tkS 4 (dkR 4 lq false) (tkS 4 lq false))) (ldS 1 0 255 (dkR 4 (dkR 4 lq false) (tkS 4 lq false)) (tkS 4 (dkR 4 lq false) (tkS 4 lq false)))) false).2.1)) tc101, .bool ((dextsM (ldR 2 1 65535 (ldR 1 0 255 (dkR 4 (dkR 4 lq false) (tkS 4 lq false)) (tkS 4 (dkR 4 lq false) (tkS 4 lq false))) (ldS 1 0 255 (dkR 4 (dkR 4 lq false) (tkS 4 lq false)) (tkS 4 (dkR 4 lq false) (tkS 4 lq false)))) (ldS 2 1 65535 (ldR 1 0 255 (dkR 4 (dkR 4 lq false) (tkS 4 lq false)) (tkS 4 (dkR 4 lq false) (tkS 4 lq false))) (ldS 1 0 255 (dkR 4 (dkR 4 lq false) (tkS 4 lq false)) (tkS 4 (dkR 4 lq false) (tkS 4 lq false)))) false).2.2.1), .bool ((dextsM (ldR 2 1 65535 (ldR 1 0 255 (dkR 4 (dkR 4 lq false) (tkS 4 lq false)) (tkS 4 (dkR 4 lq false) (tkS 4 lq false))) (ldS 1 0 255 (dkR 4 (dkR 4 lq false) (tkS 4 lq false)) (tkS 4 (dkR 4 lq false) (tkS 4 lq false)))) (ldS 2 1 65535 (ldR 1 0 255 (dkR 4 (dkR 4 lq false) (tkS 4 lq false)) (tkS 4 (dkR 4 lq false) (tkS 4 lq false))) (ldS 1 0 255 (dkR 4 (dkR 4 lq false) (tkS 4 lq false)) (tkS 4 (dkR 4 lq false) (tkS 4 lq false)))) false).2.2.2)] 154]) En123 Hv121 (fun hM124 => dend_go _ bk10 ta100 (List.length ((dextsM (ldR 2 1 65535 (ldR 1 0 255 (dkR 4 (dkR 4 lq false) (tkS 4 lq false)) (tkS 4 (dkR 4 lq false) (tkS 4 lq false))) (ldS 1 0 255 (dkR 4 (dkR 4 lq false) (tkS 4 lq false)) (tkS 4 (dkR 4 lq false) (tkS 4 lq false)))) (ldS 2 1 65535 (ldR 1 0 255 (dkR 4 (dkR 4 lq false) (tkS 4 lq false)) (tkS 4 (dkR 4 lq false) (tkS 4 lq false))) (ldS 1 0 255 (dkR 4 (dkR 4 lq false) (tkS 4 lq false)) (tkS 4 (dkR 4 lq false) (tkS 4 lq false)))) false).2.1)) tc101 ((dextsM (ldR 2 1 65535 (ldR 1 0 255 (dkR 4 (dkR 4 lq false) (tkS 4 lq false)) (tkS 4 (dkR 4 lq false) (tkS 4 lq false))) (ldS 1 0 255 (dkR 4 (dkR 4 lq false) (tkS 4 lq false)) (tkS 4 (dkR 4 lq false) (tkS 4 lq false)))) (ldS 2 1 65535 (ldR 1 0 255 (dkR 4 (dkR 4 lq false) (tkS 4 lq false)) (tkS 4 (dkR 4 lq false) (tkS 4 lq false))) (ldS 1 0 255 (dkR 4 (dkR 4 lq false) (tkS 4 lq false)) (tkS 4 (dkR 4 lq false) (tkS 4 lq false)))) false).2.2.1) ((dextsM (ldR 2 1 65535 (ldR 1 0 255 (dkR 4 (dkR 4 lq false) (tkS 4 lq false)) (tkS 4 (dkR 4 lq false) (tkS 4 lq false))) (ldS 1 0 255 (dkR 4 (dkR 4 lq false) (tkS 4 lq false)) (tkS 4 (dkR 4 lq false) (tkS 4 lq false)))) (ldS 2 1 65535 (ldR 1 0 255 (dkR 4 (dkR 4 lq false) (tkS 4 lq false)) (tkS 4 (dkR 4 lq false) (tkS 4 lq false))) (ldS 1 0 255 (dkR 4 (dkR 4 lq false) (tkS 4 lq false)) (tkS 4 (dkR 4 lq false) (tkS 4 lq false)))) false).2.2.2) hM124) ?_
 rintro _ wo125 ⟨rfl, he126⟩
 refine ⟨_, _, [.box bk10 [.slice ta100 (List.length ((dextsM (ldR 2 1 65535 (ldR 1 0 255 (dkR 4 (dkR 4 lq false) (tkS 4 lq false)) (tkS 4 (dkR 4 lq false) (tkS 4 lq false))) (ldS 1 0 255 (dkR 4 (dkR 4 lq false) (tkS 4 lq false)) (tkS 4 (dkR 4 lq false) (tkS 4 lq false)))) (ldS 2 1 65535 (ldR 1 0 255 (dkR 4 (dkR 4 lq false) (tkS 4 lq false)) (tkS 4 (dkR 4 lq false) (tkS 4 lq false))) (ldS 1 0 255 (dkR 4 (dkR 4 lq false) (tkS 4 lq false)) (tkS 4 (dkR 4 lq false) (tkS 4 lq false)))) false).2.1)) tc101, .bool ((dextsM (ldR 2 1 65535 (ldR 1 0 255 (dkR 4 (dkR 4 lq false) (tkS 4 lq false)) (tkS 4 (dkR 4 lq false) (tkS 4 lq false))) (ldS 1 0 255 (dkR 4 (dkR 4 lq false) (tkS 4 lq false)) (tkS 4 (dkR 4 lq false) (tkS 4 lq false)))) (ldS 2 1 65535 (ldR 1 0 255 (dkR 4 (dkR 4 lq false) (tkS 4 lq false)) (tkS 4 (dkR 4 lq false) (tkS 4 lq false))) (ldS 1 0 255 (dkR 4 (dkR 4 lq false) (tkS 4 lq false)) (tkS 4 (dkR 4 lq false) (tkS 4 lq false)))) false).2.2.1), .bool ((dextsM (ldR 2 1 65535 (ldR 1 0 255 (dkR 4 (dkR 4 lq false) (tkS 4 lq false)) (tkS 4 (dkR 4 lq false) (tkS 4 lq false))) (ldS 1 0 255 (dkR 4 (dkR 4 lq false) (tkS 4 lq false)) (tkS 4 (dkR 4 lq false) (tkS 4 lq false)))) (ldS 2 1 65535 (ldR 1 0 255 (dkR 4 (dkR 4 lq false) (tkS 4 lq false)) (tkS 4 (dkR 4 lq false) (tkS 4 lq false))) (ldS 1 0 255 (dkR 4 (dkR 4 lq false) (tkS 4 lq false)) (tkS 4 (dkR 4 lq false) (tkS 4 lq false)))) false).2.2.2)] 154, .vec oa104 oc105 2 (List.flatMap fExt xs106) 147, .grp (List.flatMap innExt xs106), .vec ao80 cp81 1 (bys (ldO 2 1 65535 (ldR 1 0 255 (dkR 4 (dkR 4 lq false) (tkS 4 lq false)) (tkS 4 (dkR 4 lq false) (tkS 4 lq false))) (ldS 1 0 255 (dkR 4 (dkR 4 lq false) (tkS 4 lq false)) (tkS 4 (dkR 4 lq false) (tkS 4 lq false))))) 5, .vec ao60 cp61 1 (bys (ldO 1 0 255 (dkR 4 (dkR 4 lq false) (tkS 4 lq false)) (tkS 4 (dkR 4 lq false) (tkS 4 lq false)))) 5, .box bk1 [.int .u32 0, .int .u32 0, .slice none 0 0, .slice none 0 0, .slice none 0 0] 86, .box bk31 [.int .u32 ((UInt32.toNat (UInt32.ofNat (nbV 4 lq false)) : Nat) : Int), .int .u32 ((UInt32.toNat (UInt32.ofNat (nbV 4 (dkR 4 lq false) (tkS 4 lq false))) : Nat) : Int), .slice ao60 (List.length (ldO 1 0 255 (dkR 4 (dkR 4 lq false) (tkS 4 lq false)) (tkS 4 (dkR 4 lq false) (tkS 4 lq false)))) cp61, .slice ao80 (List.length (ldO 2 1 65535 (ldR 1 0 255 (dkR 4 (dkR 4 lq false) (tkS 4 lq false)) (tkS 4 (dkR 4 lq false) (tkS 4 lq false))) (ldS 1 0 255 (dkR 4 (dkR 4 lq false) (tkS 4 lq false)) (tkS 4 (dkR 4 lq false) (tkS 4 lq false))))) cp81, .slice oa104 (List.length xs106) oc105] 86], rfl, he126, by kernel_rfl, fun ac128 En129 Hv130 => ?_⟩
 refine d_e [2,3,4,5,6] [] En129 fun ac131 En132 => ?_
 refine then_normal ?_
 refine wp_seq ?_
 refine d_s [2,3,4,5,6,30] [] En132 fun ac133 En134 => ?_
 refine c_n (endV ((dextsM (ldR 2 1 65535 (ldR 1 0 255 (dkR 4 (dkR 4 lq false) (tkS 4 lq false)) (tkS 4 (dkR 4 lq false) (tkS 4 lq false))) (ldS 1 0 255 (dkR 4 (dkR 4 lq false) (tkS 4 lq false)) (tkS 4 (dkR 4 lq false) (tkS 4 lq false)))) (ldS 2 1 65535 (ldR 1 0 255 (dkR 4 (dkR 4 lq false) (tkS 4 lq false)) (tkS 4 (dkR 4 lq false) (tkS 4 lq false))) (ldS 1 0 255 (dkR 4 (dkR 4 lq false) (tkS 4 lq false)) (tkS 4 (dkR 4 lq false) (tkS 4 lq false)))) false).2.2.1) (List.length ((dextsM (ldR 2 1 65535 (ldR 1 0 255 (dkR 4 (dkR 4 lq false) (tkS 4 lq false)) (tkS 4 (dkR 4 lq false) (tkS 4 lq false))) (ldS 1 0 255 (dkR 4 (dkR 4 lq false) (tkS 4 lq false)) (tkS 4 (dkR 4 lq false) (tkS 4 lq false)))) (ldS 2 1 65535 (ldR 1 0 255 (dkR 4 (dkR 4 lq false) (tkS 4 lq false)) (tkS 4 (dkR 4 lq false) (tkS 4 lq false))) (ldS 1 0 255 (dkR 4 (dkR 4 lq false) (tkS 4 lq false)) (tkS 4 (dkR 4 lq false) (tkS 4 lq false)))) false).2.1)) ((dextsM (ldR 2 1 65535 (ldR 1 0 255 (dkR 4 (dkR 4 lq false) (tkS 4 lq false)) (tkS 4 (dkR 4 lq false) (tkS 4 lq false))) (ldS 1 0 255 (dkR 4 (dkR 4 lq false) (tkS 4 lq false)) (tkS 4 (dkR 4 lq false) (tkS 4 lq false)))) (ldS 2 1 65535 (ldR 1 0 255 (dkR 4 (dkR 4 lq false) (tkS 4 lq false)) (tkS 4 (dkR 4 lq false) (tkS 4 lq false))) (ldS 1 0 255 (dkR 4 (dkR 4 lq false) (tkS 4 lq false)) (tkS 4 (dkR 4 lq false) (tkS 4 lq false)))) false).2.2.2)) (0 : Int) En134 (fun hc135 => ?_) (fun hc135 => ?_)
 ·
  refine wp_seq ?_
  refine region_from ?_
  refine d_k [2,3,4,5,6,31,32] [] 2 En134 fun ac136 En137 => ?_
  refine f_o ?_
  refine m_g 5 0 5 [.int .u32 0, .int .u32 0, .slice none 0 0, .slice none 0 0, .slice none 0 0] [.int .u32 0, .int .u32 0, .slice none 0 0, .slice none 0 0, .slice none 0 0] [.box bk10 [.slice ta100 (List.length ((dextsM (ldR 2 1 65535 (ldR 1 0 255 (dkR 4 (dkR 4 lq false) (tkS 4 lq false)) (tkS 4 (dkR 4 lq false) (tkS 4 lq false))) (ldS 1 0 255 (dkR 4 (dkR 4 lq false) (tkS 4 lq false)) (tkS 4 (dkR 4 lq false) (tkS 4 lq false)))) (ldS 2 1 65535 (ldR 1 0 255 (dkR 4 (dkR 4 lq false) (tkS 4 lq false)) (tkS 4 (dkR 4 lq false) (tkS 4 lq false))) (ldS 1 0 255 (dkR 4 (dkR 4 lq false) (tkS 4 lq false)) (tkS 4 (dkR 4 lq false) (tkS 4 lq false)))) false).2.1)) tc101, .bool ((dextsM (ldR 2 1 65535 (ldR 1 0 255 (dkR 4 (dkR 4 lq false) (tkS 4 lq false)) (tkS 4 (dkR 4 lq false) (tkS 4 lq false))) (ldS 1 0 255 (dkR 4 (dkR 4 lq false) (tkS 4 lq false)) (tkS 4 (dkR 4 lq false) (tkS 4 lq false)))) (ldS 2 1 65535 (ldR 1 0 255 (dkR 4 (dkR 4 lq false) (tkS 4 lq false)) (tkS 4 (dkR 4 lq false) (tkS 4 lq false))) (ldS 1 0 255 (dkR 4 (dkR 4 lq false) (tkS 4 lq false)) (tkS 4 (dkR 4 lq false) (tkS 4 lq false)))) false).2.2.1), .bool ((dextsM (ldR 2 1 65535 (ldR 1 0 255 (dkR 4 (dkR 4 lq false) (tkS 4 lq false)) (tkS 4 (dkR 4 lq false) (tkS 4 lq false))) (ldS 1 0 255 (dkR 4 (dkR 4 lq false) (tkS 4 lq false)) (tkS 4 (dkR 4 lq false) (tkS 4 lq false)))) (ldS 2 1 65535 (ldR 1 0 255 (dkR 4 (dkR 4 lq false) (tkS 4 lq false)) (tkS 4 (dkR 4 lq false) (tkS 4 lq false))) (ldS 1 0 255 (dkR 4 (dkR 4 lq false) (tkS 4 lq false)) (tkS 4 (dkR 4 lq false) (tkS 4 lq false)))) false).2.2.2)] 154, .vec oa104 oc105 2 (List.flatMap fExt xs106) 147, .grp (List.flatMap innExt xs106), .vec ao80 cp81 1 (bys (ldO 2 1 65535 (ldR 1 0 255 (dkR 4 (dkR 4 lq false) (tkS 4 lq false)) (tkS 4 (dkR 4 lq false) (tkS 4 lq false))) (ldS 1 0 255 (dkR 4 (dkR 4 lq false) (tkS 4 lq false)) (tkS 4 (dkR 4 lq false) (tkS 4 lq false))))) 5, .vec ao60 cp61 1 (bys (ldO 1 0 255 (dkR 4 (dkR 4 lq false) (tkS 4 lq false)) (tkS 4 (dkR 4 lq false) (tkS 4 lq false)))) 5, .box bk1 [.int .u32 0, .int .u32 0, .slice none 0 0, .slice none 0 0, .slice none 0 0] 86, .box bk31 [.int .u32 ((UInt32.toNat (UInt32.ofNat (nbV 4 lq false)) : Nat) : Int), .int .u32 ((UInt32.toNat (UInt32.ofNat (nbV 4 (dkR 4 lq false) (tkS 4 lq false))) : Nat) : Int), .slice ao60 (List.length (ldO 1 0 255 (dkR 4 (dkR 4 lq false) (tkS 4 lq false)) (tkS 4 (dkR 4 lq false) (tkS 4 lq false)))) cp61, .slice ao80 (List.length (ldO 2 1 65535 (ldR 1 0 255 (dkR 4 (dkR 4 lq false) (tkS 4 lq false)) (tkS 4 (dkR 4 lq false) (tkS 4 lq false))) (ldS 1 0 255 (dkR 4 (dkR 4 lq false) (tkS 4 lq false)) (tkS 4 (dkR 4 lq false) (tkS 4 lq false))))) cp81, .slice oa104 (List.length xs106) oc105] 86] En137 Hv130 rfl rfl (by simp) (one_all (by kernel_rfl)) rfl rfl fun ac138 wo139 En140 Hv141 => ?_
  refine d_e [2,3,4,5,6] [] En140 fun ac142 En143 => ?_
  refine then_normal ?_
  refine wp_ret ?_
  refine then_ret ?_
  refine d_cell_tmp (v := .agg #[.int .u32 0, .int .u32 0, .slice none 0 0, .slice none 0 0, .slice none 0 0]) (x := .int .i64 (endV ((dextsM (ldR 2 1 65535 (ldR 1 0 255 (dkR 4 (dkR 4 lq false) (tkS 4 lq false)) (tkS 4 (dkR 4 lq false) (tkS 4 lq false))) (ldS 1 0 255 (dkR 4 (dkR 4 lq false) (tkS 4 lq false)) (tkS 4 (dkR 4 lq false) (tkS 4 lq false)))) (ldS 2 1 65535 (ldR 1 0 255 (dkR 4 (dkR 4 lq false) (tkS 4 lq false)) (tkS 4 (dkR 4 lq false) (tkS 4 lq false))) (ldS 1 0 255 (dkR 4 (dkR 4 lq false) (tkS 4 lq false)) (tkS 4 (dkR 4 lq false) (tkS 4 lq false)))) false).2.2.1) (List.length ((dextsM (ldR 2 1 65535 (ldR 1 0 255 (dkR 4 (dkR 4 lq false) (tkS 4 lq false)) (tkS 4 (dkR 4 lq false) (tkS 4 lq false))) (ldS 1 0 255 (dkR 4 (dkR 4 lq false) (tkS 4 lq false)) (tkS 4 (dkR 4 lq false) (tkS 4 lq false)))) (ldS 2 1 65535 (ldR 1 0 255 (dkR 4 (dkR 4 lq false) (tkS 4 lq false)) (tkS 4 (dkR 4 lq false) (tkS 4 lq false))) (ldS 1 0 255 (dkR 4 (dkR 4 lq false) (tkS 4 lq false)) (tkS 4 (dkR 4 lq false) (tkS 4 lq false)))) false).2.1)) ((dextsM (ldR 2 1 65535 (ldR 1 0 255 (dkR 4 (dkR 4 lq false) (tkS 4 lq false)) (tkS 4 (dkR 4 lq false) (tkS 4 lq false))) (ldS 1 0 255 (dkR 4 (dkR 4 lq false) (tkS 4 lq false)) (tkS 4 (dkR 4 lq false) (tkS 4 lq false)))) (ldS 2 1 65535 (ldR 1 0 255 (dkR 4 (dkR 4 lq false) (tkS 4 lq false)) (tkS 4 (dkR 4 lq false) (tkS 4 lq false))) (ldS 1 0 255 (dkR 4 (dkR 4 lq false) (tkS 4 lq false)) (tkS 4 (dkR 4 lq false) (tkS 4 lq false)))) false).2.2.2))) (t := 2) (T := 86) (ad := ⟨bk1, 0, none⟩) (u := 3) En143 (by kernel_rfl) (by kernel_rfl) (Ev.cellAgg (t := 86) (k := 5) (off := 0) (m := 5) (xs := [.int .u32 0, .int .u32 0, .slice none 0 0, .slice none 0 0, .slice none 0 0]) Hv141 rfl rfl rfl (by kernel_rfl) (by kernel_rfl)) (by kernel_rfl) ?_
  have eA : gotA (dticM lq false false) = endV ((dextsM (ldR 2 1 65535 (ldR 1 0 255 (dkR 4 (dkR 4 lq false) (tkS 4 lq false)) (tkS 4 (dkR 4 lq false) (tkS 4 lq false))) (ldS 1 0 255 (dkR 4 (dkR 4 lq false) (tkS 4 lq false)) (tkS 4 (dkR 4 lq false) (tkS 4 lq false)))) (ldS 2 1 65535 (ldR 1 0 255 (dkR 4 (dkR 4 lq false) (tkS 4 lq false)) (tkS 4 (dkR 4 lq false) (tkS 4 lq false))) (ldS 1 0 255 (dkR 4 (dkR 4 lq false) (tkS 4 lq false)) (tkS 4 (dkR 4 lq false) (tkS 4 lq false)))) false).2.2.1) (List.length ((dextsM (ldR 2 1 65535 (ldR 1 0 255 (dkR 4 (dkR 4 lq false) (tkS 4 lq false)) (tkS 4 (dkR 4 lq false) (tkS 4 lq false))) (ldS 1 0 255 (dkR 4 (dkR 4 lq false) (tkS 4 lq false)) (tkS 4 (dkR 4 lq false) (tkS 4 lq false)))) (ldS 2 1 65535 (ldR 1 0 255 (dkR 4 (dkR 4 lq false) (tkS 4 lq false)) (tkS 4 (dkR 4 lq false) (tkS 4 lq false))) (ldS 1 0 255 (dkR 4 (dkR 4 lq false) (tkS 4 lq false)) (tkS 4 (dkR 4 lq false) (tkS 4 lq false)))) false).2.1)) ((dextsM (ldR 2 1 65535 (ldR 1 0 255 (dkR 4 (dkR 4 lq false) (tkS 4 lq false)) (tkS 4 (dkR 4 lq false) (tkS 4 lq false))) (ldS 1 0 255 (dkR 4 (dkR 4 lq false) (tkS 4 lq false)) (tkS 4 (dkR 4 lq false) (tkS 4 lq false)))) (ldS 2 1 65535 (ldR 1 0 255 (dkR 4 (dkR 4 lq false) (tkS 4 lq false)) (tkS 4 (dkR 4 lq false) (tkS 4 lq false))) (ldS 1 0 255 (dkR 4 (dkR 4 lq false) (tkS 4 lq false)) (tkS 4 (dkR 4 lq false) (tkS 4 lq false)))) false).2.2.2) := rfl
  rw [gotV_n eA (by assumption), eA]
  have Hv144 : Ev w [] wo139 [.box bk10 [.slice ta100 (List.length ((dextsM (ldR 2 1 65535 (ldR 1 0 255 (dkR 4 (dkR 4 lq false) (tkS 4 lq false)) (tkS 4 (dkR 4 lq false) (tkS 4 lq false))) (ldS 1 0 255 (dkR 4 (dkR 4 lq false) (tkS 4 lq false)) (tkS 4 (dkR 4 lq false) (tkS 4 lq false)))) (ldS 2 1 65535 (ldR 1 0 255 (dkR 4 (dkR 4 lq false) (tkS 4 lq false)) (tkS 4 (dkR 4 lq false) (tkS 4 lq false))) (ldS 1 0 255 (dkR 4 (dkR 4 lq false) (tkS 4 lq false)) (tkS 4 (dkR 4 lq false) (tkS 4 lq false)))) false).2.1)) tc101, .bool ((dextsM (ldR 2 1 65535 (ldR 1 0 255 (dkR 4 (dkR 4 lq false) (tkS 4 lq false)) (tkS 4 (dkR 4 lq false) (tkS 4 lq false))) (ldS 1 0 255 (dkR 4 (dkR 4 lq false) (tkS 4 lq false)) (tkS 4 (dkR 4 lq false) (tkS 4 lq false)))) (ldS 2 1 65535 (ldR 1 0 255 (dkR 4 (dkR 4 lq false) (tkS 4 lq false)) (tkS 4 (dkR 4 lq false) (tkS 4 lq false))) (ldS 1 0 255 (dkR 4 (dkR 4 lq false) (tkS 4 lq false)) (tkS 4 (dkR 4 lq false) (tkS 4 lq false)))) false).2.2.1), .bool ((dextsM (ldR 2 1 65535 (ldR 1 0 255 (dkR 4 (dkR 4 lq false) (tkS 4 lq false)) (tkS 4 (dkR 4 lq false) (tkS 4 lq false))) (ldS 1 0 255 (dkR 4 (dkR 4 lq false) (tkS 4 lq false)) (tkS 4 (dkR 4 lq false) (tkS 4 lq false)))) (ldS 2 1 65535 (ldR 1 0 255 (dkR 4 (dkR 4 lq false) (tkS 4 lq false)) (tkS 4 (dkR 4 lq false) (tkS 4 lq false))) (ldS 1 0 255 (dkR 4 (dkR 4 lq false) (tkS 4 lq false)) (tkS 4 (dkR 4 lq false) (tkS 4 lq false)))) false).2.2.2)] 154, .vec oa104 oc105 2 (List.flatMap fExt xs106) 147, .grp (List.flatMap innExt xs106), .vec ao80 cp81 1 (bys (ldO 2 1 65535 (ldR 1 0 255 (dkR 4 (dkR 4 lq false) (tkS 4 lq false)) (tkS 4 (dkR 4 lq false) (tkS 4 lq false))) (ldS 1 0 255 (dkR 4 (dkR 4 lq false) (tkS 4 lq false)) (tkS 4 (dkR 4 lq false) (tkS 4 lq false))))) 5, .vec ao60 cp61 1 (bys (ldO 1 0 255 (dkR 4 (dkR 4 lq false) (tkS 4 lq false)) (tkS 4 (dkR 4 lq false) (tkS 4 lq false)))) 5, .box bk1 [.int .u32 0, .int .u32 0, .slice none 0 0, .slice none 0 0, .slice none 0 0] 86, .box bk31 [.int .u32 ((UInt32.toNat (UInt32.ofNat (nbV 4 lq false)) : Nat) : Int), .int .u32 ((UInt32.toNat (UInt32.ofNat (nbV 4 (dkR 4 lq false) (tkS 4 lq false))) : Nat) : Int), .slice ao60 (List.length (ldO 1 0 255 (dkR 4 (dkR 4 lq false) (tkS 4 lq false)) (tkS 4 (dkR 4 lq false) (tkS 4 lq false)))) cp61, .slice ao80 (List.length (ldO 2 1 65535 (ldR 1 0 255 (dkR 4 (dkR 4 lq false) (tkS 4 lq false)) (tkS 4 (dkR 4 lq false) (tkS 4 lq false))) (ldS 1 0 255 (dkR 4 (dkR 4 lq false) (tkS 4 lq false)) (tkS 4 (dkR 4 lq false) (tkS 4 lq false))))) cp81, .slice oa104 (List.length xs106) oc105] 86, .vec none 0 1 (bys []) 5] := Ev.nil (sz := 1) (T := 5) Hv141
  have Hv145 : Ev w [] wo139 [.box bk10 [.slice ta100 (List.length ((dextsM (ldR 2 1 65535 (ldR 1 0 255 (dkR 4 (dkR 4 lq false) (tkS 4 lq false)) (tkS 4 (dkR 4 lq false) (tkS 4 lq false))) (ldS 1 0 255 (dkR 4 (dkR 4 lq false) (tkS 4 lq false)) (tkS 4 (dkR 4 lq false) (tkS 4 lq false)))) (ldS 2 1 65535 (ldR 1 0 255 (dkR 4 (dkR 4 lq false) (tkS 4 lq false)) (tkS 4 (dkR 4 lq false) (tkS 4 lq false))) (ldS 1 0 255 (dkR 4 (dkR 4 lq false) (tkS 4 lq false)) (tkS 4 (dkR 4 lq false) (tkS 4 lq false)))) false).2.1)) tc101, .bool ((dextsM (ldR 2 1 65535 (ldR 1 0 255 (dkR 4 (dkR 4 lq false) (tkS 4 lq false)) (tkS 4 (dkR 4 lq false) (tkS 4 lq false))) (ldS 1 0 255 (dkR 4 (dkR 4 lq false) (tkS 4 lq false)) (tkS 4 (dkR 4 lq false) (tkS 4 lq false)))) (ldS 2 1 65535 (ldR 1 0 255 (dkR 4 (dkR 4 lq false) (tkS 4 lq false)) (tkS 4 (dkR 4 lq false) (tkS 4 lq false))) (ldS 1 0 255 (dkR 4 (dkR 4 lq false) (tkS 4 lq false)) (tkS 4 (dkR 4 lq false) (tkS 4 lq false)))) false).2.2.1), .bool ((dextsM (ldR 2 1 65535 (ldR 1 0 255 (dkR 4 (dkR 4 lq false) (tkS 4 lq false)) (tkS 4 (dkR 4 lq false) (tkS 4 lq false))) (ldS 1 0 255 (dkR 4 (dkR 4 lq false) (tkS 4 lq false)) (tkS 4 (dkR 4 lq false) (tkS 4 lq false)))) (ldS 2 1 65535 (ldR 1 0 255 (dkR 4 (dkR 4 lq false) (tkS 4 lq false)) (tkS 4 (dkR 4 lq false) (tkS 4 lq false))) (ldS 1 0 255 (dkR 4 (dkR 4 lq false) (tkS 4 lq false)) (tkS 4 (dkR 4 lq false) (tkS 4 lq false)))) false).2.2.2)] 154, .vec oa104 oc105 2 (List.flatMap fExt xs106) 147, .grp (List.flatMap innExt xs106), .vec ao80 cp81 1 (bys (ldO 2 1 65535 (ldR 1 0 255 (dkR 4 (dkR 4 lq false) (tkS 4 lq false)) (tkS 4 (dkR 4 lq false) (tkS 4 lq false))) (ldS 1 0 255 (dkR 4 (dkR 4 lq false) (tkS 4 lq false)) (tkS 4 (dkR 4 lq false) (tkS 4 lq false))))) 5, .vec ao60 cp61 1 (bys (ldO 1 0 255 (dkR 4 (dkR 4 lq false) (tkS 4 lq false)) (tkS 4 (dkR 4 lq false) (tkS 4 lq false)))) 5, .box bk1 [.int .u32 0, .int .u32 0, .slice none 0 0, .slice none 0 0, .slice none 0 0] 86, .box bk31 [.int .u32 ((UInt32.toNat (UInt32.ofNat (nbV 4 lq false)) : Nat) : Int), .int .u32 ((UInt32.toNat (UInt32.ofNat (nbV 4 (dkR 4 lq false) (tkS 4 lq false))) : Nat) : Int), .slice ao60 (List.length (ldO 1 0 255 (dkR 4 (dkR 4 lq false) (tkS 4 lq false)) (tkS 4 (dkR 4 lq false) (tkS 4 lq false)))) cp61, .slice ao80 (List.length (ldO 2 1 65535 (ldR 1 0 255 (dkR 4 (dkR 4 lq false) (tkS 4 lq false)) (tkS 4 (dkR 4 lq false) (tkS 4 lq false))) (ldS 1 0 255 (dkR 4 (dkR 4 lq false) (tkS 4 lq false)) (tkS 4 (dkR 4 lq false) (tkS 4 lq false))))) cp81, .slice oa104 (List.length xs106) oc105] 86, .vec none 0 1 (bys []) 5, .vec none 0 1 (bys []) 5] := Ev.nil (sz := 1) (T := 5) Hv144
  have Hv146 : Ev w [] wo139 [.box bk10 [.slice ta100 (List.length ((dextsM (ldR 2 1 65535 (ldR 1 0 255 (dkR 4 (dkR 4 lq false) (tkS 4 lq false)) (tkS 4 (dkR 4 lq false) (tkS 4 lq false))) (ldS 1 0 255 (dkR 4 (dkR 4 lq false) (tkS 4 lq false)) (tkS 4 (dkR 4 lq false) (tkS 4 lq false)))) (ldS 2 1 65535 (ldR 1 0 255 (dkR 4 (dkR 4 lq false) (tkS 4 lq false)) (tkS 4 (dkR 4 lq false) (tkS 4 lq false))) (ldS 1 0 255 (dkR 4 (dkR 4 lq false) (tkS 4 lq false)) (tkS 4 (dkR 4 lq false) (tkS 4 lq false)))) false).2.1)) tc101, .bool ((dextsM (ldR 2 1 65535 (ldR 1 0 255 (dkR 4 (dkR 4 lq false) (tkS 4 lq false)) (tkS 4 (dkR 4 lq false) (tkS 4 lq false))) (ldS 1 0 255 (dkR 4 (dkR 4 lq false) (tkS 4 lq false)) (tkS 4 (dkR 4 lq false) (tkS 4 lq false)))) (ldS 2 1 65535 (ldR 1 0 255 (dkR 4 (dkR 4 lq false) (tkS 4 lq false)) (tkS 4 (dkR 4 lq false) (tkS 4 lq false))) (ldS 1 0 255 (dkR 4 (dkR 4 lq false) (tkS 4 lq false)) (tkS 4 (dkR 4 lq false) (tkS 4 lq false)))) false).2.2.1), .bool ((dextsM (ldR 2 1 65535 (ldR 1 0 255 (dkR 4 (dkR 4 lq false) (tkS 4 lq false)) (tkS 4 (dkR 4 lq false) (tkS 4 lq false))) (ldS 1 0 255 (dkR 4 (dkR 4 lq false) (tkS 4 lq false)) (tkS 4 (dkR 4 lq false) (tkS 4 lq false)))) (ldS 2 1 65535 (ldR 1 0 255 (dkR 4 (dkR 4 lq false) (tkS 4 lq false)) (tkS 4 (dkR 4 lq false) (tkS 4 lq false))) (ldS 1 0 255 (dkR 4 (dkR 4 lq false) (tkS 4 lq false)) (tkS 4 (dkR 4 lq false) (tkS 4 lq false)))) false).2.2.2)] 154, .vec oa104 oc105 2 (List.flatMap fExt xs106) 147, .grp (List.flatMap innExt xs106), .vec ao80 cp81 1 (bys (ldO 2 1 65535 (ldR 1 0 255 (dkR 4 (dkR 4 lq false) (tkS 4 lq false)) (tkS 4 (dkR 4 lq false) (tkS 4 lq false))) (ldS 1 0 255 (dkR 4 (dkR 4 lq false) (tkS 4 lq false)) (tkS 4 (dkR 4 lq false) (tkS 4 lq false))))) 5, .vec ao60 cp61 1 (bys (ldO 1 0 255 (dkR 4 (dkR 4 lq false) (tkS 4 lq false)) (tkS 4 (dkR 4 lq false) (tkS 4 lq false)))) 5, .box bk1 [.int .u32 0, .int .u32 0, .slice none 0 0, .slice none 0 0, .slice none 0 0] 86, .box bk31 [.int .u32 ((UInt32.toNat (UInt32.ofNat (nbV 4 lq false)) : Nat) : Int), .int .u32 ((UInt32.toNat (UInt32.ofNat (nbV 4 (dkR 4 lq false) (tkS 4 lq false))) : Nat) : Int), .slice ao60 (List.length (ldO 1 0 255 (dkR 4 (dkR 4 lq false) (tkS 4 lq false)) (tkS 4 (dkR 4 lq false) (tkS 4 lq false)))) cp61, .slice ao80 (List.length (ldO 2 1 65535 (ldR 1 0 255 (dkR 4 (dkR 4 lq false) (tkS 4 lq false)) (tkS 4 (dkR 4 lq false) (tkS 4 lq false))) (ldS 1 0 255 (dkR 4 (dkR 4 lq false) (tkS 4 lq false)) (tkS 4 (dkR 4 lq false) (tkS 4 lq false))))) cp81, .slice oa104 (List.length xs106) oc105] 86, .vec none 0 1 (bys []) 5, .vec none 0 1 (bys []) 5, .vec none 0 2 (List.flatMap fExt []) 147] := Ev.nil (sz := 2) (T := 147) Hv145
  have Hv147 : Ev w [] wo139 [.box bk10 [.slice ta100 (List.length ((dextsM (ldR 2 1 65535 (ldR 1 0 255 (dkR 4 (dkR 4 lq false) (tkS 4 lq false)) (tkS 4 (dkR 4 lq false) (tkS 4 lq false))) (ldS 1 0 255 (dkR 4 (dkR 4 lq false) (tkS 4 lq false)) (tkS 4 (dkR 4 lq false) (tkS 4 lq false)))) (ldS 2 1 65535 (ldR 1 0 255 (dkR 4 (dkR 4 lq false) (tkS 4 lq false)) (tkS 4 (dkR 4 lq false) (tkS 4 lq false))) (ldS 1 0 255 (dkR 4 (dkR 4 lq false) (tkS 4 lq false)) (tkS 4 (dkR 4 lq false) (tkS 4 lq false)))) false).2.1)) tc101, .bool ((dextsM (ldR 2 1 65535 (ldR 1 0 255 (dkR 4 (dkR 4 lq false) (tkS 4 lq false)) (tkS 4 (dkR 4 lq false) (tkS 4 lq false))) (ldS 1 0 255 (dkR 4 (dkR 4 lq false) (tkS 4 lq false)) (tkS 4 (dkR 4 lq false) (tkS 4 lq false)))) (ldS 2 1 65535 (ldR 1 0 255 (dkR 4 (dkR 4 lq false) (tkS 4 lq false)) (tkS 4 (dkR 4 lq false) (tkS 4 lq false))) (ldS 1 0 255 (dkR 4 (dkR 4 lq false) (tkS 4 lq false)) (tkS 4 (dkR 4 lq false) (tkS 4 lq false)))) false).2.2.1), .bool ((dextsM (ldR 2 1 65535 (ldR 1 0 255 (dkR 4 (dkR 4 lq false) (tkS 4 lq false)) (tkS 4 (dkR 4 lq false) (tkS 4 lq false))) (ldS 1 0 255 (dkR 4 (dkR 4 lq false) (tkS 4 lq false)) (tkS 4 (dkR 4 lq false) (tkS 4 lq false)))) (ldS 2 1 65535 (ldR 1 0 255 (dkR 4 (dkR 4 lq false) (tkS 4 lq false)) (tkS 4 (dkR 4 lq false) (tkS 4 lq false))) (ldS 1 0 255 (dkR 4 (dkR 4 lq false) (tkS 4 lq false)) (tkS 4 (dkR 4 lq false) (tkS 4 lq false)))) false).2.2.2)] 154, .vec oa104 oc105 2 (List.flatMap fExt xs106) 147, .grp (List.flatMap innExt xs106), .vec ao80 cp81 1 (bys (ldO 2 1 65535 (ldR 1 0 255 (dkR 4 (dkR 4 lq false) (tkS 4 lq false)) (tkS 4 (dkR 4 lq false) (tkS 4 lq false))) (ldS 1 0 255 (dkR 4 (dkR 4 lq false) (tkS 4 lq false)) (tkS 4 (dkR 4 lq false) (tkS 4 lq false))))) 5, .vec ao60 cp61 1 (bys (ldO 1 0 255 (dkR 4 (dkR 4 lq false) (tkS 4 lq false)) (tkS 4 (dkR 4 lq false) (tkS 4 lq false)))) 5, .box bk1 [.int .u32 0, .int .u32 0, .slice none 0 0, .slice none 0 0, .slice none 0 0] 86, .box bk31 [.int .u32 ((UInt32.toNat (UInt32.ofNat (nbV 4 lq false)) : Nat) : Int), .int .u32 ((UInt32.toNat (UInt32.ofNat (nbV 4 (dkR 4 lq false) (tkS 4 lq false))) : Nat) : Int), .slice ao60 (List.length (ldO 1 0 255 (dkR 4 (dkR 4 lq false) (tkS 4 lq false)) (tkS 4 (dkR 4 lq false) (tkS 4 lq false)))) cp61, .slice ao80 (List.length (ldO 2 1 65535 (ldR 1 0 255 (dkR 4 (dkR 4 lq false) (tkS 4 lq false)) (tkS 4 (dkR 4 lq false) (tkS 4 lq false))) (ldS 1 0 255 (dkR 4 (dkR 4 lq false) (tkS 4 lq false)) (tkS 4 (dkR 4 lq false) (tkS 4 lq false))))) cp81, .slice oa104 (List.length xs106) oc105] 86, .vec none 0 1 (bys []) 5, .vec none 0 1 (bys []) 5, .vec none 0 2 (List.flatMap fExt []) 147, .grp (List.flatMap innExt [])] := Ev.grp0 Hv146
  exact ⟨0, 0, none, 0, [], none, 0, [], none, 0, [], rfl, Hv147.pk [7, 8, 9, 10], rfl, (Nat.zero_le _), (Nat.zero_le _), (Nat.zero_le _), (fun y hy => by cases hy)⟩
 ·
  refine wp_skip ?_
  refine then_normal ?_
  refine wp_seq ?_
  refine region_from ?_
  refine f_o ?_
  refine m_a 6 0 5 [.int .u32 ((UInt32.toNat (UInt32.ofNat (nbV 4 lq false)) : Nat) : Int), .int .u32 ((UInt32.toNat (UInt32.ofNat (nbV 4 (dkR 4 lq false) (tkS 4 lq false))) : Nat) : Int), .slice ao60 (List.length (ldO 1 0 255 (dkR 4 (dkR 4 lq false) (tkS 4 lq false)) (tkS 4 (dkR 4 lq false) (tkS 4 lq false)))) cp61, .slice ao80 (List.length (ldO 2 1 65535 (ldR 1 0 255 (dkR 4 (dkR 4 lq false) (tkS 4 lq false)) (tkS 4 (dkR 4 lq false) (tkS 4 lq false))) (ldS 1 0 255 (dkR 4 (dkR 4 lq false) (tkS 4 lq false)) (tkS 4 (dkR 4 lq false) (tkS 4 lq false))))) cp81, .slice oa104 (List.length xs106) oc105] En134 Hv130 rfl rfl rfl fun ac148 En149 => ?_
  refine d_k [2,3,4,5,6,33,34] [] 2 En149 fun ac150 En151 => ?_
  refine f_o ?_
  refine m_g 5 0 5 [.int .u32 ((UInt32.toNat (UInt32.ofNat (nbV 4 lq false)) : Nat) : Int), .int .u32 ((UInt32.toNat (UInt32.ofNat (nbV 4 (dkR 4 lq false) (tkS 4 lq false))) : Nat) : Int), .slice ao60 (List.length (ldO 1 0 255 (dkR 4 (dkR 4 lq false) (tkS 4 lq false)) (tkS 4 (dkR 4 lq false) (tkS 4 lq false)))) cp61, .slice ao80 (List.length (ldO 2 1 65535 (ldR 1 0 255 (dkR 4 (dkR 4 lq false) (tkS 4 lq false)) (tkS 4 (dkR 4 lq false) (tkS 4 lq false))) (ldS 1 0 255 (dkR 4 (dkR 4 lq false) (tkS 4 lq false)) (tkS 4 (dkR 4 lq false) (tkS 4 lq false))))) cp81, .slice oa104 (List.length xs106) oc105] [.int .u32 ((UInt32.toNat (UInt32.ofNat (nbV 4 lq false)) : Nat) : Int), .int .u32 ((UInt32.toNat (UInt32.ofNat (nbV 4 (dkR 4 lq false) (tkS 4 lq false))) : Nat) : Int), .slice ao60 (List.length (ldO 1 0 255 (dkR 4 (dkR 4 lq false) (tkS 4 lq false)) (tkS 4 (dkR 4 lq false) (tkS 4 lq false)))) cp61, .slice ao80 (List.length (ldO 2 1 65535 (ldR 1 0 255 (dkR 4 (dkR 4 lq false) (tkS 4 lq false)) (tkS 4 (dkR 4 lq false) (tkS 4 lq false))) (ldS 1 0 255 (dkR 4 (dkR 4 lq false) (tkS 4 lq false)) (tkS 4 (dkR 4 lq false) (tkS 4 lq false))))) cp81, .slice oa104 (List.length xs106) oc105] [.box bk10 [.slice ta100 (List.length ((dextsM (ldR 2 1 65535 (ldR 1 0 255 (dkR 4 (dkR 4 lq false) (tkS 4 lq false)) (tkS 4 (dkR 4 lq false) (tkS 4 lq false))) (ldS 1 0 255 (dkR 4 (dkR 4 lq false) (tkS 4 lq false)) (tkS 4 (dkR 4 lq false) (tkS 4 lq false)))) (ldS 2 1 65535 (ldR 1 0 255 (dkR 4 (dkR 4 lq false) (tkS 4 lq false)) (tkS 4 (dkR 4 lq false) (tkS 4 lq false))) (ldS 1 0 255 (dkR 4 (dkR 4 lq false) (tkS 4 lq false)) (tkS 4 (dkR 4 lq false) (tkS 4 lq false)))) false).2.1)) tc101, .bool ((dextsM (ldR 2 1 65535 (ldR 1 0 255 (dkR 4 (dkR 4 lq false) (tkS 4 lq false)) (tkS 4 (dkR 4 lq false) (tkS 4 lq false))) (ldS 1 0 255 (dkR 4 (dkR 4 lq false) (tkS 4 lq false)) (tkS 4 (dkR 4 lq false) (tkS 4 lq false)))) (ldS 2 1 65535 (ldR 1 0 255 (dkR 4 (dkR 4 lq false) (tkS 4 lq false)) (tkS 4 (dkR 4 lq false) (tkS 4 lq false))) (ldS 1 0 255 (dkR 4 (dkR 4 lq false) (tkS 4 lq false)) (tkS 4 (dkR 4 lq false) (tkS 4 lq false)))) false).2.2.1), .bool ((dextsM (ldR 2 1 65535 (ldR 1 0 255 (dkR 4 (dkR 4 lq false) (tkS 4 lq false)) (tkS 4 (dkR 4 lq false) (tkS 4 lq false))) (ldS 1 0 255 (dkR 4 (dkR 4 lq false) (tkS 4 lq false)) (tkS 4 (dkR 4 lq false) (tkS 4 lq false)))) (ldS 2 1 65535 (ldR 1 0 255 (dkR 4 (dkR 4 lq false) (tkS 4 lq false)) (tkS 4 (dkR 4 lq false) (tkS 4 lq false))) (ldS 1 0 255 (dkR 4 (dkR 4 lq false) (tkS 4 lq false)) (tkS 4 (dkR 4 lq false) (tkS 4 lq false)))) false).2.2.2)] 154, .vec oa104 oc105 2 (List.flatMap fExt xs106) 147, .grp (List.flatMap innExt xs106), .vec ao80 cp81 1 (bys (ldO 2 1 65535 (ldR 1 0 255 (dkR 4 (dkR 4 lq false) (tkS 4 lq false)) (tkS 4 (dkR 4 lq false) (tkS 4 lq false))) (ldS 1 0 255 (dkR 4 (dkR 4 lq false) (tkS 4 lq false)) (tkS 4 (dkR 4 lq false) (tkS 4 lq false))))) 5, .vec ao60 cp61 1 (bys (ldO 1 0 255 (dkR 4 (dkR 4 lq false) (tkS 4 lq false)) (tkS 4 (dkR 4 lq false) (tkS 4 lq false)))) 5, .box bk1 [.int .u32 ((UInt32.toNat (UInt32.ofNat (nbV 4 lq false)) : Nat) : Int), .int .u32 ((UInt32.toNat (UInt32.ofNat (nbV 4 (dkR 4 lq false) (tkS 4 lq false))) : Nat) : Int), .slice ao60 (List.length (ldO 1 0 255 (dkR 4 (dkR 4 lq false) (tkS 4 lq false)) (tkS 4 (dkR 4 lq false) (tkS 4 lq false)))) cp61, .slice ao80 (List.length (ldO 2 1 65535 (ldR 1 0 255 (dkR 4 (dkR 4 lq false) (tkS 4 lq false)) (tkS 4 (dkR 4 lq false) (tkS 4 lq false))) (ldS 1 0 255 (dkR 4 (dkR 4 lq false) (tkS 4 lq false)) (tkS 4 (dkR 4 lq false) (tkS 4 lq false))))) cp81, .slice oa104 (List.length xs106) oc105] 86, .box bk31 [.int .u32 ((UInt32.toNat (UInt32.ofNat (nbV 4 lq false)) : Nat) : Int), .int .u32 ((UInt32.toNat (UInt32.ofNat (nbV 4 (dkR 4 lq false) (tkS 4 lq false))) : Nat) : Int), .slice ao60 (List.length (ldO 1 0 255 (dkR 4 (dkR 4 lq false) (tkS 4 lq false)) (tkS 4 (dkR 4 lq false) (tkS 4 lq false)))) cp61, .slice ao80 (List.length (ldO 2 1 65535 (ldR 1 0 255 (dkR 4 (dkR 4 lq false) (tkS 4 lq false)) (tkS 4 (dkR 4 lq false) (tkS 4 lq false))) (ldS 1 0 255 (dkR 4 (dkR 4 lq false) (tkS 4 lq false)) (tkS 4 (dkR 4 lq false) (tkS 4 lq false))))) cp81, .slice oa104 (List.length xs106) oc105] 86] En151 Hv130 rfl rfl (by simp) (one_all (by kernel_rfl)) rfl rfl fun ac152 wo153 En154 Hv155 => ?_
  refine d_e [2,3,4,5,6] [] En154 fun ac156 En157 => ?_
  refine then_normal ?_
  refine wp_ret ?_
  refine d_cell_tmp (v := .agg #[.int .u32 ((UInt32.toNat (UInt32.ofNat (nbV 4 lq false)) : Nat) : Int), .int .u32 ((UInt32.toNat (UInt32.ofNat (nbV 4 (dkR 4 lq false) (tkS 4 lq false))) : Nat) : Int), .slice ao60 (List.length (ldO 1 0 255 (dkR 4 (dkR 4 lq false) (tkS 4 lq false)) (tkS 4 (dkR 4 lq false) (tkS 4 lq false)))) cp61, .slice ao80 (List.length (ldO 2 1 65535 (ldR 1 0 255 (dkR 4 (dkR 4 lq false) (tkS 4 lq false)) (tkS 4 (dkR 4 lq false) (tkS 4 lq false))) (ldS 1 0 255 (dkR 4 (dkR 4 lq false) (tkS 4 lq false)) (tkS 4 (dkR 4 lq false) (tkS 4 lq false))))) cp81, .slice oa104 (List.length xs106) oc105]) (x := .int .i64 (endV ((dextsM (ldR 2 1 65535 (ldR 1 0 255 (dkR 4 (dkR 4 lq false) (tkS 4 lq false)) (tkS 4 (dkR 4 lq false) (tkS 4 lq false))) (ldS 1 0 255 (dkR 4 (dkR 4 lq false) (tkS 4 lq false)) (tkS 4 (dkR 4 lq false) (tkS 4 lq false)))) (ldS 2 1 65535 (ldR 1 0 255 (dkR 4 (dkR 4 lq false) (tkS 4 lq false)) (tkS 4 (dkR 4 lq false) (tkS 4 lq false))) (ldS 1 0 255 (dkR 4 (dkR 4 lq false) (tkS 4 lq false)) (tkS 4 (dkR 4 lq false) (tkS 4 lq false)))) false).2.2.1) (List.length ((dextsM (ldR 2 1 65535 (ldR 1 0 255 (dkR 4 (dkR 4 lq false) (tkS 4 lq false)) (tkS 4 (dkR 4 lq false) (tkS 4 lq false))) (ldS 1 0 255 (dkR 4 (dkR 4 lq false) (tkS 4 lq false)) (tkS 4 (dkR 4 lq false) (tkS 4 lq false)))) (ldS 2 1 65535 (ldR 1 0 255 (dkR 4 (dkR 4 lq false) (tkS 4 lq false)) (tkS 4 (dkR 4 lq false) (tkS 4 lq false))) (ldS 1 0 255 (dkR 4 (dkR 4 lq false) (tkS 4 lq false)) (tkS 4 (dkR 4 lq false) (tkS 4 lq false)))) false).2.1)) ((dextsM (ldR 2 1 65535 (ldR 1 0 255 (dkR 4 (dkR 4 lq false) (tkS 4 lq false)) (tkS 4 (dkR 4 lq false) (tkS 4 lq false))) (ldS 1 0 255 (dkR 4 (dkR 4 lq false) (tkS 4 lq false)) (tkS 4 (dkR 4 lq false) (tkS 4 lq false)))) (ldS 2 1 65535 (ldR 1 0 255 (dkR 4 (dkR 4 lq false) (tkS 4 lq false)) (tkS 4 (dkR 4 lq false) (tkS 4 lq false))) (ldS 1 0 255 (dkR 4 (dkR 4 lq false) (tkS 4 lq false)) (tkS 4 (dkR 4 lq false) (tkS 4 lq false)))) false).2.2.2))) (t := 2) (T := 86) (ad := ⟨bk1, 0, none⟩) (u := 3) En157 (by kernel_rfl) (by kernel_rfl) (Ev.cellAgg (t := 86) (k := 5) (off := 0) (m := 5) (xs := [.int .u32 ((UInt32.toNat (UInt32.ofNat (nbV 4 lq false)) : Nat) : Int), .int .u32 ((UInt32.toNat (UInt32.ofNat (nbV 4 (dkR 4 lq false) (tkS 4 lq false))) : Nat) : Int), .slice ao60 (List.length (ldO 1 0 255 (dkR 4 (dkR 4 lq false) (tkS 4 lq false)) (tkS 4 (dkR 4 lq false) (tkS 4 lq false)))) cp61, .slice ao80 (List.length (ldO 2 1 65535 (ldR 1 0 255 (dkR 4 (dkR 4 lq false) (tkS 4 lq false)) (tkS 4 (dkR 4 lq false) (tkS 4 lq false))) (ldS 1 0 255 (dkR 4 (dkR 4 lq false) (tkS 4 lq false)) (tkS 4 (dkR 4 lq false) (tkS 4 lq false))))) cp81, .slice oa104 (List.length xs106) oc105]) Hv155 rfl rfl rfl (by kernel_rfl) (by kernel_rfl)) (by kernel_rfl) ?_
  have eA : gotA (dticM lq false false) = endV ((dextsM (ldR 2 1 65535 (ldR 1 0 255 (dkR 4 (dkR 4 lq false) (tkS 4 lq false)) (tkS 4 (dkR 4 lq false) (tkS 4 lq false))) (ldS 1 0 255 (dkR 4 (dkR 4 lq false) (tkS 4 lq false)) (tkS 4 (dkR 4 lq false) (tkS 4 lq false)))) (ldS 2 1 65535 (ldR 1 0 255 (dkR 4 (dkR 4 lq false) (tkS 4 lq false)) (tkS 4 (dkR 4 lq false) (tkS 4 lq false))) (ldS 1 0 255 (dkR 4 (dkR 4 lq false) (tkS 4 lq false)) (tkS 4 (dkR 4 lq false) (tkS 4 lq false)))) false).2.2.1) (List.length ((dextsM (ldR 2 1 65535 (ldR 1 0 255 (dkR 4 (dkR 4 lq false) (tkS 4 lq false)) (tkS 4 (dkR 4 lq false) (tkS 4 lq false))) (ldS 1 0 255 (dkR 4 (dkR 4 lq false) (tkS 4 lq false)) (tkS 4 (dkR 4 lq false) (tkS 4 lq false)))) (ldS 2 1 65535 (ldR 1 0 255 (dkR 4 (dkR 4 lq false) (tkS 4 lq false)) (tkS 4 (dkR 4 lq false) (tkS 4 lq false))) (ldS 1 0 255 (dkR 4 (dkR 4 lq false) (tkS 4 lq false)) (tkS 4 (dkR 4 lq false) (tkS 4 lq false)))) false).2.1)) ((dextsM (ldR 2 1 65535 (ldR 1 0 255 (dkR 4 (dkR 4 lq false) (tkS 4 lq false)) (tkS 4 (dkR 4 lq false) (tkS 4 lq false))) (ldS 1 0 255 (dkR 4 (dkR 4 lq false) (tkS 4 lq false)) (tkS 4 (dkR 4 lq false) (tkS 4 lq false)))) (ldS 2 1 65535 (ldR 1 0 255 (dkR 4 (dkR 4 lq false) (tkS 4 lq false)) (tkS 4 (dkR 4 lq false) (tkS 4 lq false))) (ldS 1 0 255 (dkR 4 (dkR 4 lq false) (tkS 4 lq false)) (tkS 4 (dkR 4 lq false) (tkS 4 lq false)))) false).2.2.2) := rfl
  rw [gotV_0 (eA.trans (by first | assumption | exact Classical.not_not.1 (by assumption))), eA]
  exact ⟨(UInt32.ofNat (nbV 4 lq false)), (UInt32.ofNat (nbV 4 (dkR 4 lq false) (tkS 4 lq false))), ao60, cp61, (ldO 1 0 255 (dkR 4 (dkR 4 lq false) (tkS 4 lq false)) (tkS 4 (dkR 4 lq false) (tkS 4 lq false))), ao80, cp81, (ldO 2 1 65535 (ldR 1 0 255 (dkR 4 (dkR 4 lq false) (tkS 4 lq false)) (tkS 4 (dkR 4 lq false) (tkS 4 lq false))) (ldS 1 0 255 (dkR 4 (dkR 4 lq false) (tkS 4 lq false)) (tkS 4 (dkR 4 lq false) (tkS 4 lq false)))), oa104, oc105, xs106, rfl, Hv155.pk [4, 3, 1, 2], (by rw [hpu103]; rfl), (Nat.le_of_succ_le (ldO_32 (by decide) _ _)), (Nat.le_of_succ_le (ldO_32 (by decide) _ _)), hf107, hf108⟩

end Go.Proofs.Ytofecellbfhnjaa
