import Derived.Test.YtofecellbfhnjaaTh8
/- Layer 17: requests, signatures, tickets are read, by both. -/

namespace Go.Proofs.Ytofecellbfhnjaa
open Go.Dbr
set_option maxRecDepth 100000
set_option maxHeartbeats 2000000
set_option linter.unusedVariables false
set_option linter.unusedSimpArgs false

/-- a ticket: what stands ahead of its extensions -/
def tq1 (l : Bs) (s : Bool) : Bs × Bool := (tkR 4 (tkR 4 l s) (tkS 4 l s), tkS 4 (tkR 4 l s) (tkS 4 l s))
def tq2 (l : Bs) (s : Bool) : Bs × Bool := (lsR 1 0 255 (tq1 l s).1 (tq1 l s).2, lsS 1 0 255 (tq1 l s).1 (tq1 l s).2)
def tq3 (l : Bs) (s : Bool) : Bs × Bool := (lsR 2 1 65535 (tq2 l s).1 (tq2 l s).2, lsS 2 1 65535 (tq2 l s).1 (tq2 l s).2)
def ticM (l : Bs) (s o : Bool) : (UInt32 × UInt32 × Bs × Bs × List EX) × PS := ((UInt32.ofNat (nbV 4 l s), UInt32.ofNat (nbV 4 (tkR 4 l s) (tkS 4 l s)), lsO 1 0 255 (tq1 l s).1 (tq1 l s).2, lsO 2 1 65535 (tq2 l s).1 (tq2 l s).2, (extsM (tq3 l s).1 (tq3 l s).2 o).1), (extsM (tq3 l s).1 (tq3 l s).2 o).2)
theorem getver1 (w : World) (br : Nat) (a : Option Addr) (c : Nat) (l : List UInt8) (s o : Bool) (i : InB w [.box br [.slice a (List.length l) c, .bool s, .bool o] 120] a c l) (hH : Heap w [.box br [.slice a (List.length l) c, .bool s, .bool o] 120]) : Calls Try.prog 192 #[pt br] w fun e w' => ∃ ta tc xva oab ocb blb, e = .returned (.agg #[uv16 xva, .slice oab (List.length blb) ocb]) ∧ Ev w [.box br [.slice a (List.length l) c, .bool s, .bool o] 120] w' [.box br [.slice ta (List.length ((extM l s o).2.1)) tc, .bool ((extM l s o).2.2.1), .bool ((extM l s o).2.2.2)] 120, .vec oab ocb 1 (bys blb) 5] ∧ Sub a c l ta tc (extM l s o).2.1 ∧ (xva, blb) = (extM l s o).1 ∧ List.length blb ≤ 4294967296 := by
 refine d_0 [(0, pt br)] 10 Go.Proofs.Try.func192 Go.Proofs.Try.ntmps192 (hH) fun act0 En0 Hv0 => ?_
 refine wp_seq ?_
 refine region_from ?_
 refine f_o ?_
 refine m_z 88 [.int .u16 0, .slice none 0 0] En0 Hv0 fun ac2 wo3 bk1 En4 Hv5 => ?_
 refine f_e ?_
 refine then_normal ?_
 refine wp_seq ?_
 refine region_from ?_
 refine d_k [0,2,4] [] 1 En4 fun ac6 En7 => ?_
 refine f_o ?_
 refine c_l [0] (M := [.box br [.slice a (List.length l) c, .bool s, .bool o] 120]) En7 Hv5 (fun hM11 => u16_go _ br a c l s o ((i.ev Hv5).pick [0] (by kernel_rfl)) hM11) ?_
 rintro _ wo12 ⟨ta8, tc9, rfl, he13, hs10⟩
 refine ⟨_, _, [.box br [.slice ta8 (List.length (tkR 2 l s)) tc9, .bool (tkS 2 l s), .bool o] 120, .box bk1 [.int .u16 0, .slice none 0 0] 88], rfl, he13, by kernel_rfl, fun ac15 En16 Hv17 => ?_⟩
 refine d_e [0,2,3] [] En16 fun ac18 En19 => ?_
 refine then_normal ?_
 refine wp_seq ?_
 refine region_from ?_
 refine d_k [0,2,6,7] [] 2 En19 fun ac20 En21 => ?_
 refine f_o ?_
 refine c_l [0] (M := [.box br [.slice ta8 (List.length (tkR 2 l s)) tc9, .bool (tkS 2 l s), .bool o] 120]) En21 Hv17 (fun hM27 => list_go _ br 2 (by omega) 0 65535 (by omega) (by omega) ta8 tc9 (tkR 2 l s) (tkS 2 l s) o (hs10 _ _ ((i.ev Hv17).pick [0] (by kernel_rfl))) hM27) ?_
 rintro _ wo28 ⟨ao22, cp23, ta24, tc25, rfl, he29, hs26⟩
 refine ⟨_, _, [.box br [.slice ta24 (List.length (lsR 2 0 65535 (tkR 2 l s) (tkS 2 l s))) tc25, .bool (lsS 2 0 65535 (tkR 2 l s) (tkS 2 l s)), .bool o] 120, .vec ao22 cp23 1 (bys (lsO 2 0 65535 (tkR 2 l s) (tkS 2 l s))) 5, .box bk1 [.int .u16 0, .slice none 0 0] 88], rfl, he29, by kernel_rfl, fun ac31 En32 Hv33 => ?_⟩
 refine d_k [0,2,9] [] 4 En32 fun ac34 En35 => ?_
 refine f_o ?_
 refine m_g 2 0 2 [.int .u16 ((UInt16.toNat (UInt16.ofNat (nbV 2 l s)) : Nat) : Int), .slice ao22 (List.length (lsO 2 0 65535 (tkR 2 l s) (tkS 2 l s))) cp23] [.int .u16 ((UInt16.toNat (UInt16.ofNat (nbV 2 l s)) : Nat) : Int), .slice ao22 (List.length (lsO 2 0 65535 (tkR 2 l s) (tkS 2 l s))) cp23] [.box br [.slice ta24 (List.length (lsR 2 0 65535 (tkR 2 l s) (tkS 2 l s))) tc25, .bool (lsS 2 0 65535 (tkR 2 l s) (tkS 2 l s)), .bool o] 120, .vec ao22 cp23 1 (bys (lsO 2 0 65535 (tkR 2 l s) (tkS 2 l s))) 5, .box bk1 [.int .u16 ((UInt16.toNat (UInt16.ofNat (nbV 2 l s)) : Nat) : Int), .slice ao22 (List.length (lsO 2 0 65535 (tkR 2 l s) (tkS 2 l s))) cp23] 88] En35 Hv33 rfl rfl (by simp) (one_all (by kernel_rfl)) rfl rfl fun ac36 wo37 En38 Hv39 => ?_
 refine f_e ?_
 refine then_normal ?_
 refine wp_ret ?_
 refine d_cell1 (v := .agg #[.int .u16 ((UInt16.toNat (UInt16.ofNat (nbV 2 l s)) : Nat) : Int), .slice ao22 (List.length (lsO 2 0 65535 (tkR 2 l s) (tkS 2 l s))) cp23]) (t := 2) (T := 88) (ad := ⟨bk1, 0, none⟩) En38 (by kernel_rfl) (by kernel_rfl) (Ev.cellAgg (t := 88) (k := 2) (off := 0) (m := 2) (xs := [.int .u16 ((UInt16.toNat (UInt16.ofNat (nbV 2 l s)) : Nat) : Int), .slice ao22 (List.length (lsO 2 0 65535 (tkR 2 l s) (tkS 2 l s))) cp23]) Hv39 rfl rfl rfl (by kernel_rfl) (by kernel_rfl)) ?_
 exact ⟨ta24, tc25, (UInt16.ofNat (nbV 2 l s)), ao22, cp23, (lsO 2 0 65535 (tkR 2 l s) (tkS 2 l s)), rfl, Hv39.pk [0, 1], (hs10.trans hs26), rfl, (Nat.le_of_succ_le (lsO_32 (by decide) _ _))⟩

theorem got_getver (w : World) (a : Option Addr) (c : Nat) (l : Bs) (i : InB w [] a c l) : Calls Try.prog 191 #[.slice a (List.length l) c, .func (.func 192) #[] #[]] w fun e w' => ∃ xva oab ocb blb, e = .returned (.tuple #[.agg #[uv16 xva, .slice oab (List.length blb) ocb], .int .i64 (gotA (extM l false false))]) ∧ Ev w [] w' [.vec oab ocb 1 (bys blb) 5] ∧ (xva, blb) = gotV (0, []) (extM l false false) ∧ List.length blb ≤ 4294967296 := by
 refine d_0 [(0, .slice a (List.length l) c), (1, .func (.func 192) #[] #[])] 36 Go.Proofs.Try.func191 Go.Proofs.Try.ntmps191 (Heap.nil _) fun act0 En0 Hv0 => ?_
 refine wp_seq ?_
 refine region_from ?_
 refine f_o ?_
 refine m_z 88 [.int .u16 0, .slice none 0 0] En0 Hv0 fun ac2 wo3 bk1 En4 Hv5 => ?_
 refine d_e [0,1,4,5] [] En4 fun ac6 En7 => ?_
 refine then_normal ?_
 refine wp_seq ?_
 refine region_from ?_
 refine f_o ?_
 refine m_z 88 [.int .u16 0, .slice none 0 0] En7 Hv5 fun ac9 wo10 bk8 En11 Hv12 => ?_
 refine f_e ?_
 refine then_normal ?_
 refine wp_seq ?_
 refine region_from ?_
 refine d_k [1,4,5,6,10] [] 2 En11 fun ac13 En14 => ?_
 refine f_o ?_
 refine m_m 120 [.slice a (List.length l) c, .bool false, .bool false] En14 Hv12 fun ac16 wo17 bk15 En18 Hv19 => ?_
 refine d_e [1,4,5,6,7] [] En18 fun ac20 En21 => ?_
 refine then_normal ?_
 refine wp_seq ?_
 refine region_from ?_
 refine d_k [4,5,6,7,12,13] [] 2 En21 fun ac22 En23 => ?_
 refine f_o ?_
 refine c_l [2] (M := [.box bk15 [.slice a (List.length l) c, .bool false, .bool false] 120]) En23 Hv19 (fun hM33 => getver1 _ bk15 a c l false false ((i.ev Hv19).pick [2] (by kernel_rfl)) hM33) ?_
 rintro _ wo34 ⟨ta24, tc25, xva28, oab29, ocb30, blb31, rfl, he35, hs26, hpu27, hf32⟩
 refine ⟨_, _, [.box bk15 [.slice ta24 (List.length ((extM l false false).2.1)) tc25, .bool ((extM l false false).2.2.1), .bool ((extM l false false).2.2.2)] 120, .vec oab29 ocb30 1 (bys blb31) 5, .box bk1 [.int .u16 0, .slice none 0 0] 88, .box bk8 [.int .u16 0, .slice none 0 0] 88], rfl, he35, by kernel_rfl, fun ac37 En38 Hv39 => ?_⟩
 refine f_o ?_
 refine m_z 88 [.int .u16 0, .slice none 0 0] En38 Hv39 fun ac41 wo42 bk40 En43 Hv44 => ?_
 refine f_o ?_
 refine m_g 4 0 2 [uv16 xva28, .slice oab29 (List.length blb31) ocb30] [uv16 xva28, .slice oab29 (List.length blb31) ocb30] [.box bk15 [.slice ta24 (List.length ((extM l false false).2.1)) tc25, .bool ((extM l false false).2.2.1), .bool ((extM l false false).2.2.2)] 120, .vec oab29 ocb30 1 (bys blb31) 5, .box bk1 [.int .u16 0, .slice none 0 0] 88, .box bk8 [.int .u16 0, .slice none 0 0] 88, .box bk40 [uv16 xva28, .slice oab29 (List.length blb31) ocb30] 88] En43 Hv44 rfl rfl (by simp) (one_all (by kernel_rfl)) rfl rfl fun ac45 wo46 En47 Hv48 => ?_
 refine f_e ?_
 refine then_normal ?_
 refine wp_seq ?_
 refine wp_block ?_
 refine wp_seq ?_
 refine region_from ?_
 refine d_k [4,5,6,7,8,18] [] 3 En47 fun ac49 En50 => ?_
 refine f_o ?_
 refine m_l 0 En50 Hv48 fun ac51 En52 => ?_
 refine d_k [4,5,6,7,8,20] [] 5 En52 fun ac53 En54 => ?_
 rcases Bool.eq_false_or_eq_true ((extM l false false).2.2.1) with hb55 | hb55
 ·
  have En56 := En54.fx (t := 20) (congrArg Value.bool hb55)
  have hp57 : (extM l false false).2.2.1 = true := hb55
  refine d_e [4,5,6,7,8,15] [] En56 fun ac58 En59 => ?_
  refine then_normal ?_
  refine c_t En59 ?_
  refine wp_seq ?_
  refine region_from ?_
  refine f_o ?_
  refine m_a 3 0 2 [.int .u16 0, .slice none 0 0] En59 Hv48 rfl rfl rfl fun ac60 En61 => ?_
  refine f_o ?_
  refine m_g 2 0 2 [.int .u16 0, .slice none 0 0] [.int .u16 0, .slice none 0 0] [.box bk15 [.slice ta24 (List.length ((extM l false false).2.1)) tc25, .bool ((extM l false false).2.2.1), .bool ((extM l false false).2.2.2)] 120, .vec oab29 ocb30 1 (bys blb31) 5, .box bk1 [.int .u16 0, .slice none 0 0] 88, .box bk8 [.int .u16 0, .slice none 0 0] 88, .box bk40 [uv16 xva28, .slice oab29 (List.length blb31) ocb30] 88] En61 Hv48 rfl rfl (by simp) (one_all (by kernel_rfl)) rfl rfl fun ac62 wo63 En64 Hv65 => ?_
  refine d_e [4,5,6,7,8] [] En64 fun ac66 En67 => ?_
  refine then_normal ?_
  refine wp_ret ?_
  refine block_ret ?_
  refine then_ret ?_
  refine d_cell_tmp (v := .agg #[.int .u16 0, .slice none 0 0]) (x := .int .i64 50) (t := 4) (T := 88) (ad := ⟨bk1, 0, none⟩) (u := 5) En67 (by kernel_rfl) (by kernel_rfl) (Ev.cellAgg (t := 88) (k := 2) (off := 0) (m := 2) (xs := [.int .u16 0, .slice none 0 0]) Hv65 rfl rfl rfl (by kernel_rfl) (by kernel_rfl)) (by kernel_rfl) ?_
  have eA : gotA (extM l false false) = 50 := Eq.symm (by first | exact end_1 (by assumption) | exact end_2 (by omega) | exact end_3 (by assumption) (by omega) (by assumption))
  rw [gotV_n eA (by decide), eA]
  have Hv68 : Ev w [] wo63 [.box bk15 [.slice ta24 (List.length ((extM l false false).2.1)) tc25, .bool ((extM l false false).2.2.1), .bool ((extM l false false).2.2.2)] 120, .vec oab29 ocb30 1 (bys blb31) 5, .box bk1 [.int .u16 0, .slice none 0 0] 88, .box bk8 [.int .u16 0, .slice none 0 0] 88, .box bk40 [uv16 xva28, .slice oab29 (List.length blb31) ocb30] 88, .vec none 0 1 (bys []) 5] := Ev.nil (sz := 1) (T := 5) Hv65
  exact ⟨0, none, 0, [], rfl, Hv68.pk [5], rfl, (Nat.zero_le _)⟩
 ·
  have En69 := En54.fx (t := 20) (congrArg Value.bool hb55)
  have hp70 : ¬ ((extM l false false).2.2.1 = true) := Bool.eq_false_iff.1 hb55
  refine d_k [4,5,6,7,8,20,23] [] 8 En69 fun ac71 En72 => ?_
  refine f_o ?_
  refine m_l 0 En72 Hv48 fun ac73 En74 => ?_
  refine d_e [4,5,6,7,8,15] [] En74 fun ac75 En76 => ?_
  refine then_normal ?_
  refine c_d (((List.length ((extM l false false).2.1) : Nat) : Int) > (0 : Int)) En76 (fun hc77 => ?_) (fun hc77 => ?_)
  ·
   refine wp_seq ?_
   refine region_from ?_
   refine f_o ?_
   refine m_a 3 0 2 [.int .u16 0, .slice none 0 0] En76 Hv48 rfl rfl rfl fun ac78 En79 => ?_
   refine f_o ?_
   refine m_g 2 0 2 [.int .u16 0, .slice none 0 0] [.int .u16 0, .slice none 0 0] [.box bk15 [.slice ta24 (List.length ((extM l false false).2.1)) tc25, .bool ((extM l false false).2.2.1), .bool ((extM l false false).2.2.2)] 120, .vec oab29 ocb30 1 (bys blb31) 5, .box bk1 [.int .u16 0, .slice none 0 0] 88, .box bk8 [.int .u16 0, .slice none 0 0] 88, .box bk40 [uv16 xva28, .slice oab29 (List.length blb31) ocb30] 88] En79 Hv48 rfl rfl (by simp) (one_all (by kernel_rfl)) rfl rfl fun ac80 wo81 En82 Hv83 => ?_
   refine d_e [4,5,6,7,8] [] En82 fun ac84 En85 => ?_
   refine then_normal ?_
   refine wp_ret ?_
   refine block_ret ?_
   refine then_ret ?_
   refine d_cell_tmp (v := .agg #[.int .u16 0, .slice none 0 0]) (x := .int .i64 50) (t := 4) (T := 88) (ad := ⟨bk1, 0, none⟩) (u := 5) En85 (by kernel_rfl) (by kernel_rfl) (Ev.cellAgg (t := 88) (k := 2) (off := 0) (m := 2) (xs := [.int .u16 0, .slice none 0 0]) Hv83 rfl rfl rfl (by kernel_rfl) (by kernel_rfl)) (by kernel_rfl) ?_
   have eA : gotA (extM l false false) = 50 := Eq.symm (by first | exact end_1 (by assumption) | exact end_2 (by omega) | exact end_3 (by assumption) (by omega) (by assumption))
   rw [gotV_n eA (by decide), eA]
   have Hv86 : Ev w [] wo81 [.box bk15 [.slice ta24 (List.length ((extM l false false).2.1)) tc25, .bool ((extM l false false).2.2.1), .bool ((extM l false false).2.2.2)] 120, .vec oab29 ocb30 1 (bys blb31) 5, .box bk1 [.int .u16 0, .slice none 0 0] 88, .box bk8 [.int .u16 0, .slice none 0 0] 88, .box bk40 [uv16 xva28, .slice oab29 (List.length blb31) ocb30] 88, .vec none 0 1 (bys []) 5] := Ev.nil (sz := 1) (T := 5) Hv83
   exact ⟨0, none, 0, [], rfl, Hv86.pk [5], rfl, (Nat.zero_le _)⟩
  ·
   refine wp_seq ?_
   refine region_from ?_
   refine d_k [4,5,6,7,8,32] [] 3 En76 fun ac87 En88 => ?_
   refine f_o ?_
   refine m_l 0 En88 Hv48 fun ac89 En90 => ?_
   refine d_e [4,5,6,7,8,29] [] En90 fun ac91 En92 => ?_
   refine then_normal ?_
   refine cond_at En92 (t := (extM l false false).2.2.2) (by kernel_rfl) (fun hc93 => ?_) (fun hc93 => ?_)
   ·
    replace hc93 : (extM l false false).2.2.2 = true := hc93
    refine wp_seq ?_
    refine region_from ?_
    refine f_o ?_
    refine m_a 3 0 2 [.int .u16 0, .slice none 0 0] En92 Hv48 rfl rfl rfl fun ac94 En95 => ?_
    refine f_o ?_
    refine m_g 2 0 2 [.int .u16 0, .slice none 0 0] [.int .u16 0, .slice none 0 0] [.box bk15 [.slice ta24 (List.length ((extM l false false).2.1)) tc25, .bool ((extM l false false).2.2.1), .bool ((extM l false false).2.2.2)] 120, .vec oab29 ocb30 1 (bys blb31) 5, .box bk1 [.int .u16 0, .slice none 0 0] 88, .box bk8 [.int .u16 0, .slice none 0 0] 88, .box bk40 [uv16 xva28, .slice oab29 (List.length blb31) ocb30] 88] En95 Hv48 rfl rfl (by simp) (one_all (by kernel_rfl)) rfl rfl fun ac96 wo97 En98 Hv99 => ?_
    refine d_e [4,5,6,7,8] [] En98 fun ac100 En101 => ?_
    refine then_normal ?_
    refine wp_ret ?_
    refine block_ret ?_
    refine then_ret ?_
    refine d_cell_tmp (v := .agg #[.int .u16 0, .slice none 0 0]) (x := .int .i64 47) (t := 4) (T := 88) (ad := ⟨bk1, 0, none⟩) (u := 5) En101 (by kernel_rfl) (by kernel_rfl) (Ev.cellAgg (t := 88) (k := 2) (off := 0) (m := 2) (xs := [.int .u16 0, .slice none 0 0]) Hv99 rfl rfl rfl (by kernel_rfl) (by kernel_rfl)) (by kernel_rfl) ?_
    have eA : gotA (extM l false false) = 47 := Eq.symm (by first | exact end_1 (by assumption) | exact end_2 (by omega) | exact end_3 (by assumption) (by omega) (by assumption))
    rw [gotV_n eA (by decide), eA]
    have Hv102 : Ev w [] wo97 [.box bk15 [.slice ta24 (List.length ((extM l false false).2.1)) tc25, .bool ((extM l false false).2.2.1), .bool ((extM l false false).2.2.2)] 120, .vec oab29 ocb30 1 (bys blb31) 5, .box bk1 [.int .u16 0, .slice none 0 0] 88, .box bk8 [.int .u16 0, .slice none 0 0] 88, .box bk40 [uv16 xva28, .slice oab29 (List.length blb31) ocb30] 88, .vec none 0 1 (bys []) 5] := Ev.nil (sz := 1) (T := 5) Hv99
    exact ⟨0, none, 0, [], rfl, Hv102.pk [5], rfl, (Nat.zero_le _)⟩
   ·
    replace hc93 : ¬ ((extM l false false).2.2.2 = true) := Bool.eq_false_iff.1 hc93
    refine wp_skip ?_
    refine block_normal ?_
    refine then_normal ?_
    refine wp_seq ?_
    refine region_from ?_
    refine f_o ?_
    refine m_a 4 0 2 [uv16 xva28, .slice oab29 (List.length blb31) ocb30] En92 Hv48 rfl rfl rfl fun ac103 En104 => ?_
    refine f_o ?_
    refine m_g 2 0 2 [uv16 xva28, .slice oab29 (List.length blb31) ocb30] [uv16 xva28, .slice oab29 (List.length blb31) ocb30] [.box bk15 [.slice ta24 (List.length ((extM l false false).2.1)) tc25, .bool ((extM l false false).2.2.1), .bool ((extM l false false).2.2.2)] 120, .vec oab29 ocb30 1 (bys blb31) 5, .box bk1 [uv16 xva28, .slice oab29 (List.length blb31) ocb30] 88, .box bk8 [.int .u16 0, .slice none 0 0] 88, .box bk40 [uv16 xva28, .slice oab29 (List.length blb31) ocb30] 88] En104 Hv48 rfl rfl (by simp) (one_all (by kernel_rfl)) rfl rfl fun ac105 wo106 En107 Hv108 => ?_
    refine d_e [4,5,6,7,8] [] En107 fun ac109 En110 => ?_
    refine then_normal ?_
    refine wp_ret ?_
    refine d_cell_tmp (v := .agg #[uv16 xva28, .slice oab29 (List.length blb31) ocb30]) (x := .int .i64 0) (t := 4) (T := 88) (ad := ⟨bk1, 0, none⟩) (u := 5) En110 (by kernel_rfl) (by kernel_rfl) (Ev.cellAgg (t := 88) (k := 2) (off := 0) (m := 2) (xs := [uv16 xva28, .slice oab29 (List.length blb31) ocb30]) Hv108 rfl rfl rfl (by kernel_rfl) (by kernel_rfl)) (by kernel_rfl) ?_
    have eA : gotA (extM l false false) = 0 := (end_4 (by assumption) (by omega) (by assumption)).symm
    rw [gotV_0 eA, eA]
    exact ⟨xva28, oab29, ocb30, blb31, rfl, Hv108.pk [1], hpu27, hf32⟩

theorem getverify_go (w : World) (aq : Option Addr) (nq cq : Nat) (lq : List UInt8) (eq : nq = List.length lq) (iq : InB w [] aq cq lq) : Calls Try.prog 84 #[.slice aq nq cq] w fun e w' => ∃ xva oab ocb blb, e = .returned (.tuple #[.agg #[uv16 xva, .slice oab (List.length blb) ocb], .int .i64 (gotA (extM lq false false))]) ∧ Ev w [] w' [.vec oab ocb 1 (bys blb) 5] ∧ (xva, blb) = gotV (0, []) (extM lq false false) ∧ List.length blb ≤ 4294967296 := by
 subst eq
 refine d_0 [(0, .slice aq (List.length lq) cq)] 8 Go.Proofs.Try.func84 Go.Proofs.Try.ntmps84 (Heap.nil _) fun act0 En0 Hv0 => ?_
 refine wp_seq ?_
 refine region_from ?_
 refine f_o ?_
 refine m_z 88 [.int .u16 0, .slice none 0 0] En0 Hv0 fun ac2 wo3 bk1 En4 Hv5 => ?_
 refine d_e [0,2,3] [] En4 fun ac6 En7 => ?_
 refine then_normal ?_
 refine wp_seq ?_
 refine region_from ?_
 refine d_k [2,3,4] [] 1 En7 fun ac8 En9 => ?_
 refine f_o ?_
 refine c_0 En9 Hv5 (got_getver _ aq cq lq ((iq.ev Hv5).pick [] (by kernel_rfl))) ?_
 rintro _ wo17 ⟨xva10, oab11, ocb12, blb13, rfl, he18, hpu14, hf15⟩
 refine ⟨_, _, _, rfl, he18, rfl, fun ac20 En21 Hv22 => ?_⟩
 refine d_k [2,3,6,7] [] 4 En21 fun ac23 En24 => ?_
 refine f_o ?_
 refine m_g 1 0 2 [uv16 xva10, .slice oab11 (List.length blb13) ocb12] [uv16 xva10, .slice oab11 (List.length blb13) ocb12] [.vec oab11 ocb12 1 (bys blb13) 5, .box bk1 [uv16 xva10, .slice oab11 (List.length blb13) ocb12] 88] En24 Hv22 rfl rfl (by simp) (one_all (by kernel_rfl)) rfl rfl fun ac25 wo26 En27 Hv28 => ?_
 refine d_e [2,3] [] En27 fun ac29 En30 => ?_
 refine then_normal ?_
 refine wp_ret ?_
 refine d_cell_tmp (v := .agg #[uv16 xva10, .slice oab11 (List.length blb13) ocb12]) (x := .int .i64 (gotA (extM lq false false))) (t := 2) (T := 88) (ad := ⟨bk1, 0, none⟩) (u := 3) En30 (by kernel_rfl) (by kernel_rfl) (Ev.cellAgg (t := 88) (k := 1) (off := 0) (m := 2) (xs := [uv16 xva10, .slice oab11 (List.length blb13) ocb12]) Hv28 rfl rfl rfl (by kernel_rfl) (by kernel_rfl)) (by kernel_rfl) ?_
 exact ⟨xva10, oab11, ocb12, blb13, rfl, Hv28.pk [0], hpu14, hf15⟩

theorem gettic1 (w : World) (br : Nat) (a : Option Addr) (c : Nat) (l : List UInt8) (s o : Bool) (i : InB w [.box br [.slice a (List.length l) c, .bool s, .bool o] 120] a c l) (hH : Heap w [.box br [.slice a (List.length l) c, .bool s, .bool o] 120]) : Calls Try.prog 194 #[pt br] w fun e w' => ∃ ta tc xva xvb oac occ blc oad ocd bld oae oce xse, e = .returned (.agg #[uv32 xva, uv32 xvb, .slice oac (List.length blc) occ, .slice oad (List.length bld) ocd, .slice oae (List.length xse) oce]) ∧ Ev w [.box br [.slice a (List.length l) c, .bool s, .bool o] 120] w' [.box br [.slice ta (List.length ((ticM l s o).2.1)) tc, .bool ((ticM l s o).2.2.1), .bool ((ticM l s o).2.2.2)] 120, .vec oac occ 1 (bys blc) 5, .vec oad ocd 1 (bys bld) 5, .vec oae oce 2 (List.flatMap fExt xse) 147, .grp (List.flatMap innExt xse)] ∧ Sub a c l ta tc (ticM l s o).2.1 ∧ (xva, xvb, blc, bld, List.map (fun y : RExt => (y.1, y.2.1.l)) xse) = (ticM l s o).1 ∧ List.length blc ≤ 4294967296 ∧ List.length bld ≤ 4294967296 ∧ List.length xse ≤ 4294967296 ∧ ∀ y ∈ xse, List.length y.2.1.l ≤ 140737488351232 := by
 refine d_0 [(0, pt br)] 22 Go.Proofs.Try.func194 Go.Proofs.Try.ntmps194 (hH) fun act0 En0 Hv0 => ?_
 refine wp_seq ?_
 refine region_from ?_
 refine f_o ?_
 refine m_z 86 [.int .u32 0, .int .u32 0, .slice none 0 0, .slice none 0 0, .slice none 0 0] En0 Hv0 fun ac2 wo3 bk1 En4 Hv5 => ?_
 refine f_e ?_
 refine then_normal ?_
 refine wp_seq ?_
 refine region_from ?_
 refine d_k [0,2,4] [] 1 En4 fun ac6 En7 => ?_
 refine f_o ?_
 refine c_l [0] (M := [.box br [.slice a (List.length l) c, .bool s, .bool o] 120]) En7 Hv5 (fun hM11 => number_go _ br 4 (by omega) a c l s o ((i.ev Hv5).pick [0] (by kernel_rfl)) hM11) ?_
 rintro _ wo12 ⟨ta8, tc9, rfl, he13, hs10⟩
 refine ⟨_, _, [.box br [.slice ta8 (List.length (tkR 4 l s)) tc9, .bool (tkS 4 l s), .bool o] 120, .box bk1 [.int .u32 0, .int .u32 0, .slice none 0 0, .slice none 0 0, .slice none 0 0] 86], rfl, he13, by kernel_rfl, fun ac15 En16 Hv17 => ?_⟩
 refine d_k [0,2,7] [(2, g_i .u32 (Go.Dbr.nat_to_u32 (a := ((nbV 4 l s : Nat) : Int)) (n := nbV 4 l s) rfl))] 4 En16 fun ac18 En19 => ?_
 refine f_o ?_
 refine m_z 86 [.int .u32 0, .int .u32 0, .slice none 0 0, .slice none 0 0, .slice none 0 0] En19 Hv17 fun ac21 wo22 bk20 En23 Hv24 => ?_
 refine f_o ?_
 refine m_g 2 0 5 [.int .u32 ((UInt32.toNat (UInt32.ofNat (nbV 4 l s)) : Nat) : Int), .int .u32 0, .slice none 0 0, .slice none 0 0, .slice none 0 0] [.int .u32 ((UInt32.toNat (UInt32.ofNat (nbV 4 l s)) : Nat) : Int), .int .u32 0, .slice none 0 0, .slice none 0 0, .slice none 0 0] [.box br [.slice ta8 (List.length (tkR 4 l s)) tc9, .bool (tkS 4 l s), .bool o] 120, .box bk1 [.int .u32 0, .int .u32 0, .slice none 0 0, .slice none 0 0, .slice none 0 0] 86, .box bk20 [.int .u32 ((UInt32.toNat (UInt32.ofNat (nbV 4 l s)) : Nat) : Int), .int .u32 0, .slice none 0 0, .slice none 0 0, .slice none 0 0] 86] En23 Hv24 rfl rfl (by simp) (one_all (by kernel_rfl)) rfl rfl fun ac25 wo26 En27 Hv28 => ?_
 refine f_e ?_
 refine then_normal ?_
 refine wp_seq ?_
 refine region_from ?_
 refine d_k [0,2,3,8] [] 1 En27 fun ac29 En30 => ?_
 refine f_o ?_
 refine c_l [0] (M := [.box br [.slice ta8 (List.length (tkR 4 l s)) tc9, .bool (tkS 4 l s), .bool o] 120]) En30 Hv28 (fun hM34 => number_go _ br 4 (by omega) ta8 tc9 (tkR 4 l s) (tkS 4 l s) o (hs10 _ _ ((i.ev Hv28).pick [0] (by kernel_rfl))) hM34) ?_
 rintro _ wo35 ⟨ta31, tc32, rfl, he36, hs33⟩
 refine ⟨_, _, [.box br [.slice ta31 (List.length (tkR 4 (tkR 4 l s) (tkS 4 l s))) tc32, .bool (tkS 4 (tkR 4 l s) (tkS 4 l s)), .bool o] 120, .box bk1 [.int .u32 0, .int .u32 0, .slice none 0 0, .slice none 0 0, .slice none 0 0] 86, .box bk20 [.int .u32 ((UInt32.toNat (UInt32.ofNat (nbV 4 l s)) : Nat) : Int), .int .u32 0, .slice none 0 0, .slice none 0 0, .slice none 0 0] 86], rfl, he36, by kernel_rfl, fun ac38 En39 Hv40 => ?_⟩
 refine d_k [0,2,3,10,11] [(2, g_i .u32 (Go.Dbr.nat_to_u32 (a := ((nbV 4 (tkR 4 l s) (tkS 4 l s) : Nat) : Int)) (n := nbV 4 (tkR 4 l s) (tkS 4 l s)) rfl))] 4 En39 fun ac41 En42 => ?_
 refine f_o ?_
 refine m_s 2 [.box br [.slice ta31 (List.length (tkR 4 (tkR 4 l s) (tkS 4 l s))) tc32, .bool (tkS 4 (tkR 4 l s) (tkS 4 l s)), .bool o] 120, .box bk1 [.int .u32 0, .int .u32 0, .slice none 0 0, .slice none 0 0, .slice none 0 0] 86, .box bk20 [.int .u32 ((UInt32.toNat (UInt32.ofNat (nbV 4 l s)) : Nat) : Int), .int .u32 ((UInt32.toNat (UInt32.ofNat (nbV 4 (tkR 4 l s) (tkS 4 l s))) : Nat) : Int), .slice none 0 0, .slice none 0 0, .slice none 0 0] 86] En42 Hv40 fun ac43 wo44 En45 Hv46 => ?_
 refine f_e ?_
 refine then_normal ?_
 refine wp_seq ?_
 refine region_from ?_
 refine d_k [0,2,3,12] [] 1 En45 fun ac47 En48 => ?_
 refine f_o ?_
 refine c_l [0] (M := [.box br [.slice ta31 (List.length (tkR 4 (tkR 4 l s) (tkS 4 l s))) tc32, .bool (tkS 4 (tkR 4 l s) (tkS 4 l s)), .bool o] 120]) En48 Hv46 (fun hM54 => list_go _ br 1 (by omega) 0 255 (by omega) (by omega) ta31 tc32 (tkR 4 (tkR 4 l s) (tkS 4 l s)) (tkS 4 (tkR 4 l s) (tkS 4 l s)) o (hs33 _ _ (hs10 _ _ ((i.ev Hv46).pick [0] (by kernel_rfl)))) hM54) ?_
 rintro _ wo55 ⟨ao49, cp50, ta51, tc52, rfl, he56, hs53⟩
 refine ⟨_, _, [.box br [.slice ta51 (List.length (lsR 1 0 255 (tkR 4 (tkR 4 l s) (tkS 4 l s)) (tkS 4 (tkR 4 l s) (tkS 4 l s)))) tc52, .bool (lsS 1 0 255 (tkR 4 (tkR 4 l s) (tkS 4 l s)) (tkS 4 (tkR 4 l s) (tkS 4 l s))), .bool o] 120, .vec ao49 cp50 1 (bys (lsO 1 0 255 (tkR 4 (tkR 4 l s) (tkS 4 l s)) (tkS 4 (tkR 4 l s) (tkS 4 l s)))) 5, .box bk1 [.int .u32 0, .int .u32 0, .slice none 0 0, .slice none 0 0, .slice none 0 0] 86, .box bk20 [.int .u32 ((UInt32.toNat (UInt32.ofNat (nbV 4 l s)) : Nat) : Int), .int .u32 ((UInt32.toNat (UInt32.ofNat (nbV 4 (tkR 4 l s) (tkS 4 l s))) : Nat) : Int), .slice none 0 0, .slice none 0 0, .slice none 0 0] 86], rfl, he56, by kernel_rfl, fun ac58 En59 Hv60 => ?_⟩
 refine d_k [0,2,3,13,14] [] 3 En59 fun ac61 En62 => ?_
 refine f_o ?_
 refine m_s 3 [.box br [.slice ta51 (List.length (lsR 1 0 255 (tkR 4 (tkR 4 l s) (tkS 4 l s)) (tkS 4 (tkR 4 l s) (tkS 4 l s)))) tc52, .bool (lsS 1 0 255 (tkR 4 (tkR 4 l s) (tkS 4 l s)) (tkS 4 (tkR 4 l s) (tkS 4 l s))), .bool o] 120, .vec ao49 cp50 1 (bys (lsO 1 0 255 (tkR 4 (tkR 4 l s) (tkS 4 l s)) (tkS 4 (tkR 4 l s) (tkS 4 l s)))) 5, .box bk1 [.int .u32 0, .int .u32 0, .slice none 0 0, .slice none 0 0, .slice none 0 0] 86, .box bk20 [.int .u32 ((UInt32.toNat (UInt32.ofNat (nbV 4 l s)) : Nat) : Int), .int .u32 ((UInt32.toNat (UInt32.ofNat (nbV 4 (tkR 4 l s) (tkS 4 l s))) : Nat) : Int), .slice ao49 (List.length (lsO 1 0 255 (tkR 4 (tkR 4 l s) (tkS 4 l s)) (tkS 4 (tkR 4 l s) (tkS 4 l s)))) cp50, .slice none 0 0, .slice none 0 0] 86] En62 Hv60 fun ac63 wo64 En65 Hv66 => ?_
 refine f_e ?_
 refine then_normal ?_
 refine wp_seq ?_
 refine region_from ?_
 refine d_k [0,2,3,15] [] 1 En65 fun ac67 En68 => ?_
 refine f_o ?_
 refine c_l [0] (M := [.box br [.slice ta51 (List.length (lsR 1 0 255 (tkR 4 (tkR 4 l s) (tkS 4 l s)) (tkS 4 (tkR 4 l s) (tkS 4 l s)))) tc52, .bool (lsS 1 0 255 (tkR 4 (tkR 4 l s) (tkS 4 l s)) (tkS 4 (tkR 4 l s) (tkS 4 l s))), .bool o] 120]) En68 Hv66 (fun hM76 => bytes2_go _ br ta51 tc52 (lsR 1 0 255 (tkR 4 (tkR 4 l s) (tkS 4 l s)) (tkS 4 (tkR 4 l s) (tkS 4 l s))) (lsS 1 0 255 (tkR 4 (tkR 4 l s) (tkS 4 l s)) (tkS 4 (tkR 4 l s) (tkS 4 l s))) o (hs53 _ _ (hs33 _ _ (hs10 _ _ ((i.ev Hv66).pick [0] (by kernel_rfl))))) hM76) ?_
 rintro _ wo77 ⟨ta69, tc70, oa73, oc74, bl75, rfl, he78, hs71, hpu72⟩
 refine ⟨_, _, [.box br [.slice ta69 (List.length ((listM 2 1 65535 (lsR 1 0 255 (tkR 4 (tkR 4 l s) (tkS 4 l s)) (tkS 4 (tkR 4 l s) (tkS 4 l s))) (lsS 1 0 255 (tkR 4 (tkR 4 l s) (tkS 4 l s)) (tkS 4 (tkR 4 l s) (tkS 4 l s))) o).2.1)) tc70, .bool ((listM 2 1 65535 (lsR 1 0 255 (tkR 4 (tkR 4 l s) (tkS 4 l s)) (tkS 4 (tkR 4 l s) (tkS 4 l s))) (lsS 1 0 255 (tkR 4 (tkR 4 l s) (tkS 4 l s)) (tkS 4 (tkR 4 l s) (tkS 4 l s))) o).2.2.1), .bool ((listM 2 1 65535 (lsR 1 0 255 (tkR 4 (tkR 4 l s) (tkS 4 l s)) (tkS 4 (tkR 4 l s) (tkS 4 l s))) (lsS 1 0 255 (tkR 4 (tkR 4 l s) (tkS 4 l s)) (tkS 4 (tkR 4 l s) (tkS 4 l s))) o).2.2.2)] 120, .vec oa73 oc74 1 (bys bl75) 5, .vec ao49 cp50 1 (bys (lsO 1 0 255 (tkR 4 (tkR 4 l s) (tkS 4 l s)) (tkS 4 (tkR 4 l s) (tkS 4 l s)))) 5, .box bk1 [.int .u32 0, .int .u32 0, .slice none 0 0, .slice none 0 0, .slice none 0 0] 86, .box bk20 [.int .u32 ((UInt32.toNat (UInt32.ofNat (nbV 4 l s)) : Nat) : Int), .int .u32 ((UInt32.toNat (UInt32.ofNat (nbV 4 (tkR 4 l s) (tkS 4 l s))) : Nat) : Int), .slice ao49 (List.length (lsO 1 0 255 (tkR 4 (tkR 4 l s) (tkS 4 l s)) (tkS 4 (tkR 4 l s) (tkS 4 l s)))) cp50, .slice none 0 0, .slice none 0 0] 86], rfl, he78, by kernel_rfl, fun ac80 En81 Hv82 => ?_⟩
 refine d_k [0,2,3,16,17] [] 3 En81 fun ac83 En84 => ?_
 refine f_o ?_
 refine m_s 4 [.box br [.slice ta69 (List.length ((listM 2 1 65535 (lsR 1 0 255 (tkR 4 (tkR 4 l s) (tkS 4 l s)) (tkS 4 (tkR 4 l s) (tkS 4 l s))) (lsS 1 0 255 (tkR 4 (tkR 4 l s) (tkS 4 l s)) (tkS 4 (tkR 4 l s) (tkS 4 l s))) o).2.1)) tc70, .bool ((listM 2 1 65535 (lsR 1 0 255 (tkR 4 (tkR 4 l s) (tkS 4 l s)) (tkS 4 (tkR 4 l s) (tkS 4 l s))) (lsS 1 0 255 (tkR 4 (tkR 4 l s) (tkS 4 l s)) (tkS 4 (tkR 4 l s) (tkS 4 l s))) o).2.2.1), .bool ((listM 2 1 65535 (lsR 1 0 255 (tkR 4 (tkR 4 l s) (tkS 4 l s)) (tkS 4 (tkR 4 l s) (tkS 4 l s))) (lsS 1 0 255 (tkR 4 (tkR 4 l s) (tkS 4 l s)) (tkS 4 (tkR 4 l s) (tkS 4 l s))) o).2.2.2)] 120, .vec oa73 oc74 1 (bys bl75) 5, .vec ao49 cp50 1 (bys (lsO 1 0 255 (tkR 4 (tkR 4 l s) (tkS 4 l s)) (tkS 4 (tkR 4 l s) (tkS 4 l s)))) 5, .box bk1 [.int .u32 0, .int .u32 0, .slice none 0 0, .slice none 0 0, .slice none 0 0] 86, .box bk20 [.int .u32 ((UInt32.toNat (UInt32.ofNat (nbV 4 l s)) : Nat) : Int), .int .u32 ((UInt32.toNat (UInt32.ofNat (nbV 4 (tkR 4 l s) (tkS 4 l s))) : Nat) : Int), .slice ao49 (List.length (lsO 1 0 255 (tkR 4 (tkR 4 l s) (tkS 4 l s)) (tkS 4 (tkR 4 l s) (tkS 4 l s)))) cp50, .slice oa73 (List.length bl75) oc74, .slice none 0 0] 86] En84 Hv82 fun ac85 wo86 En87 Hv88 => ?_
 refine f_e ?_
 refine then_normal ?_
 refine wp_seq ?_
 refine region_from ?_
 refine d_k [0,2,3,18] [] 1 En87 fun ac89 En90 => ?_
 refine f_o ?_
 refine c_l [0] (M := [.box br [.slice ta69 (List.length ((listM 2 1 65535 (lsR 1 0 255 (tkR 4 (tkR 4 l s) (tkS 4 l s)) (tkS 4 (tkR 4 l s) (tkS 4 l s))) (lsS 1 0 255 (tkR 4 (tkR 4 l s) (tkS 4 l s)) (tkS 4 (tkR 4 l s) (tkS 4 l s))) o).2.1)) tc70, .bool ((listM 2 1 65535 (lsR 1 0 255 (tkR 4 (tkR 4 l s) (tkS 4 l s)) (tkS 4 (tkR 4 l s) (tkS 4 l s))) (lsS 1 0 255 (tkR 4 (tkR 4 l s) (tkS 4 l s)) (tkS 4 (tkR 4 l s) (tkS 4 l s))) o).2.2.1), .bool ((listM 2 1 65535 (lsR 1 0 255 (tkR 4 (tkR 4 l s) (tkS 4 l s)) (tkS 4 (tkR 4 l s) (tkS 4 l s))) (lsS 1 0 255 (tkR 4 (tkR 4 l s) (tkS 4 l s)) (tkS 4 (tkR 4 l s) (tkS 4 l s))) o).2.2.2)] 120]) En90 Hv88 (fun hM100 => exts_go _ br ta69 tc70 ((listM 2 1 65535 (lsR 1 0 255 (tkR 4 (tkR 4 l s) (tkS 4 l s)) (tkS 4 (tkR 4 l s) (tkS 4 l s))) (lsS 1 0 255 (tkR 4 (tkR 4 l s) (tkS 4 l s)) (tkS 4 (tkR 4 l s) (tkS 4 l s))) o).2.1) ((listM 2 1 65535 (lsR 1 0 255 (tkR 4 (tkR 4 l s) (tkS 4 l s)) (tkS 4 (tkR 4 l s) (tkS 4 l s))) (lsS 1 0 255 (tkR 4 (tkR 4 l s) (tkS 4 l s)) (tkS 4 (tkR 4 l s) (tkS 4 l s))) o).2.2.1) ((listM 2 1 65535 (lsR 1 0 255 (tkR 4 (tkR 4 l s) (tkS 4 l s)) (tkS 4 (tkR 4 l s) (tkS 4 l s))) (lsS 1 0 255 (tkR 4 (tkR 4 l s) (tkS 4 l s)) (tkS 4 (tkR 4 l s) (tkS 4 l s))) o).2.2.2) (hs71 _ _ (hs53 _ _ (hs33 _ _ (hs10 _ _ ((i.ev Hv88).pick [0] (by kernel_rfl)))))) hM100) ?_
 rintro _ wo101 ⟨ta91, tc92, oa95, oc96, xs97, rfl, he102, hs93, hpu94, hf98, hf99⟩
 refine ⟨_, _, [.box br [.slice ta91 (List.length ((extsM ((listM 2 1 65535 (lsR 1 0 255 (tkR 4 (tkR 4 l s) (tkS 4 l s)) (tkS 4 (tkR 4 l s) (tkS 4 l s))) (lsS 1 0 255 (tkR 4 (tkR 4 l s) (tkS 4 l s)) (tkS 4 (tkR 4 l s) (tkS 4 l s))) o).2.1) ((listM 2 1 65535 (lsR 1 0 255 (tkR 4 (tkR 4 l s) (tkS 4 l s)) (tkS 4 (tkR 4 l s) (tkS 4 l s))) (lsS 1 0 255 (tkR 4 (tkR 4 l s) (tkS 4 l s)) (tkS 4 (tkR 4 l s) (tkS 4 l s))) o).2.2.1) ((listM 2 1 65535 (lsR 1 0 255 (tkR 4 (tkR 4 l s) (tkS 4 l s)) (tkS 4 (tkR 4 l s) (tkS 4 l s))) (lsS 1 0 255 (tkR 4 (tkR 4 l s) (tkS 4 l s)) (tkS 4 (tkR 4 l s) (tkS 4 l s))) o).2.2.2)).2.1)) tc92, .bool ((extsM ((listM 2 1 65535 (lsR 1 0 255 (tkR 4 (tkR 4 l s) (tkS 4 l s)) (tkS 4 (tkR 4 l s) (tkS 4 l s))) (lsS 1 0 255 (tkR 4 (tkR 4 l s) (tkS 4 l s)) (tkS 4 (tkR 4 l s) (tkS 4 l s))) o).2.1) ((listM 2 1 65535 (lsR 1 0 255 (tkR 4 (tkR 4 l s) (tkS 4 l s)) (tkS 4 (tkR 4 l s) (tkS 4 l s))) (lsS 1 0 255 (tkR 4 (tkR 4 l s) (tkS 4 l s)) (tkS 4 (tkR 4 l s) (tkS 4 l s))) o).2.2.1) ((listM 2 1 65535 (lsR 1 0 255 (tkR 4 (tkR 4 l s) (tkS 4 l s)) (tkS 4 (tkR 4 l s) (tkS 4 l s))) (lsS 1 0 255 (tkR 4 (tkR 4 l s) (tkS 4 l s)) (tkS 4 (tkR 4 l s) (tkS 4 l s))) o).2.2.2)).2.2.1), .bool ((extsM ((listM 2 1 65535 (lsR 1 0 255 (tkR 4 (tkR 4 l s) (tkS 4 l s)) (tkS 4 (tkR 4 l s) (tkS 4 l s))) (lsS 1 0 255 (tkR 4 (tkR 4 l s) (tkS 4 l s)) (tkS 4 (tkR 4 l s) (tkS 4 l s))) o).2.1) ((listM 2 1 65535 (lsR 1 0 255 (tkR 4 (tkR 4 l s) (tkS 4 l s)) (tkS 4 (tkR 4 l s) (tkS 4 l s))) (lsS 1 0 255 (tkR 4 (tkR 4 l s) (tkS 4 l s)) (tkS 4 (tkR 4 l s) (tkS 4 l s))) o).2.2.1) ((listM 2 1 65535 (lsR 1 0 255 (tkR 4 (tkR 4 l s) (tkS 4 l s)) (tkS 4 (tkR 4 l s) (tkS 4 l s))) (lsS 1 0 255 (tkR 4 (tkR 4 l s) (tkS 4 l s)) (tkS 4 (tkR 4 l s) (tkS 4 l s))) o).2.2.2)).2.2.2)] 120, .vec oa95 oc96 2 (List.flatMap fExt xs97) 147, .grp (List.flatMap innExt xs97), .vec oa73 oc74 1 (bys bl75) 5, .vec ao49 cp50 1 (bys (lsO 1 0 255 (tkR 4 (tkR 4 l s) (tkS 4 l s)) (tkS 4 (tkR 4 l s) (tkS 4 l s)))) 5, .box bk1 [.int .u32 0, .int .u32 0, .slice none 0 0, .slice none 0 0, .slice none 0 0] 86, .box bk20 [.int .u32 ((UInt32.toNat (UInt32.ofNat (nbV 4 l s)) : Nat) : Int), .int .u32 ((UInt32.toNat (UInt32.ofNat (nbV 4 (tkR 4 l s) (tkS 4 l s))) : Nat) : Int), .slice ao49 (List.length (lsO 1 0 255 (tkR 4 (tkR 4 l s) (tkS 4 l s)) (tkS 4 (tkR 4 l s) (tkS 4 l s)))) cp50, .slice oa73 (List.length bl75) oc74, .slice none 0 0] 86], rfl, he102, by kernel_rfl, fun ac104 En105 Hv106 => ?_⟩
 refine d_k [0,2,3,19,20] [] 3 En105 fun ac107 En108 => ?_
 refine f_o ?_
 refine m_s 6 [.box br [.slice ta91 (List.length ((extsM ((listM 2 1 65535 (lsR 1 0 255 (tkR 4 (tkR 4 l s) (tkS 4 l s)) (tkS 4 (tkR 4 l s) (tkS 4 l s))) (lsS 1 0 255 (tkR 4 (tkR 4 l s) (tkS 4 l s)) (tkS 4 (tkR 4 l s) (tkS 4 l s))) o).2.1) ((listM 2 1 65535 (lsR 1 0 255 (tkR 4 (tkR 4 l s) (tkS 4 l s)) (tkS 4 (tkR 4 l s) (tkS 4 l s))) (lsS 1 0 255 (tkR 4 (tkR 4 l s) (tkS 4 l s)) (tkS 4 (tkR 4 l s) (tkS 4 l s))) o).2.2.1) ((listM 2 1 65535 (lsR 1 0 255 (tkR 4 (tkR 4 l s) (tkS 4 l s)) (tkS 4 (tkR 4 l s) (tkS 4 l s))) (lsS 1 0 255 (tkR 4 (tkR 4 l s) (tkS 4 l s)) (tkS 4 (tkR 4 l s) (tkS 4 l s))) o).2.2.2)).2.1)) tc92, .bool ((extsM ((listM 2 1 65535 (lsR 1 0 255 (tkR 4 (tkR 4 l s) (tkS 4 l s)) (tkS 4 (tkR 4 l s) (tkS 4 l s))) (lsS 1 0 255 (tkR 4 (tkR 4 l s) (tkS 4 l s)) (tkS 4 (tkR 4 l s) (tkS 4 l s))) o).2.1) ((listM 2 1 65535 (lsR 1 0 255 (tkR 4 (tkR 4 l s) (tkS 4 l s)) (tkS 4 (tkR 4 l s) (tkS 4 l s))) (lsS 1 0 255 (tkR 4 (tkR 4 l s) (tkS 4 l s)) (tkS 4 (tkR 4 l s) (tkS 4 l s))) o).2.2.1) ((listM 2 1 65535 (lsR 1 0 255 (tkR 4 (tkR 4 l s) (tkS 4 l s)) (tkS 4 (tkR 4 l s) (tkS 4 l s))) (lsS 1 0 255 (tkR 4 (tkR 4 l s) (tkS 4 l s)) (tkS 4 (tkR 4 l s) (tkS 4 l s))) o).2.2.2)).2.2.1), .bool ((extsM ((listM 2 1 65535 (lsR 1 0 255 (tkR 4 (tkR 4 l s) (tkS 4 l s)) (tkS 4 (tkR 4 l s) (tkS 4 l s))) (lsS 1 0 255 (tkR 4 (tkR 4 l s) (tkS 4 l s)) (tkS 4 (tkR 4 l s) (tkS 4 l s))) o).2.1) ((listM 2 1 65535 (lsR 1 0 255 (tkR 4 (tkR 4 l s) (tkS 4 l s)) (tkS 4 (tkR 4 l s) (tkS 4 l s))) (lsS 1 0 255 (tkR 4 (tkR 4 l s) (tkS 4 l s)) (tkS 4 (tkR 4 l s) (tkS 4 l s))) o).2.2.1) ((listM 2 1 65535 (lsR 1 0 255 (tkR 4 (tkR 4 l s) (tkS 4 l s)) (tkS 4 (tkR 4 l s) (tkS 4 l s))) (lsS 1 0 255 (tkR 4 (tkR 4 l s) (tkS 4 l s)) (tkS 4 (tkR 4 l s) (tkS 4 l s))) o).2.2.2)).2.2.2)] 120, .vec oa95 oc96 2 (List.flatMap fExt xs97) 147, .grp (List.flatMap innExt xs97), .vec oa73 oc74 1 (bys bl75) 5, .vec ao49 cp50 1 (bys (lsO 1 0 255 (tkR 4 (tkR 4 l s) (tkS 4 l s)) (tkS 4 (tkR 4 l s) (tkS 4 l s)))) 5, .box bk1 [.int .u32 0, .int .u32 0, .slice none 0 0, .slice none 0 0, .slice none 0 0] 86, .box bk20 [.int .u32 ((UInt32.toNat (UInt32.ofNat (nbV 4 l s)) : Nat) : Int), .int .u32 ((UInt32.toNat (UInt32.ofNat (nbV 4 (tkR 4 l s) (tkS 4 l s))) : Nat) : Int), .slice ao49 (List.length (lsO 1 0 255 (tkR 4 (tkR 4 l s) (tkS 4 l s)) (tkS 4 (tkR 4 l s) (tkS 4 l s)))) cp50, .slice oa73 (List.length bl75) oc74, .slice oa95 (List.length xs97) oc96] 86] En108 Hv106 fun ac109 wo110 En111 Hv112 => ?_
 refine f_e ?_
 refine then_normal ?_
 refine wp_seq ?_
 refine region_from ?_
 refine f_o ?_
 refine m_a 6 0 5 [.int .u32 ((UInt32.toNat (UInt32.ofNat (nbV 4 l s)) : Nat) : Int), .int .u32 ((UInt32.toNat (UInt32.ofNat (nbV 4 (tkR 4 l s) (tkS 4 l s))) : Nat) : Int), .slice ao49 (List.length (lsO 1 0 255 (tkR 4 (tkR 4 l s) (tkS 4 l s)) (tkS 4 (tkR 4 l s) (tkS 4 l s)))) cp50, .slice oa73 (List.length bl75) oc74, .slice oa95 (List.length xs97) oc96] En111 Hv112 rfl rfl rfl fun ac113 En114 => ?_
 refine f_o ?_
 refine m_g 5 0 5 [.int .u32 ((UInt32.toNat (UInt32.ofNat (nbV 4 l s)) : Nat) : Int), .int .u32 ((UInt32.toNat (UInt32.ofNat (nbV 4 (tkR 4 l s) (tkS 4 l s))) : Nat) : Int), .slice ao49 (List.length (lsO 1 0 255 (tkR 4 (tkR 4 l s) (tkS 4 l s)) (tkS 4 (tkR 4 l s) (tkS 4 l s)))) cp50, .slice oa73 (List.length bl75) oc74, .slice oa95 (List.length xs97) oc96] [.int .u32 ((UInt32.toNat (UInt32.ofNat (nbV 4 l s)) : Nat) : Int), .int .u32 ((UInt32.toNat (UInt32.ofNat (nbV 4 (tkR 4 l s) (tkS 4 l s))) : Nat) : Int), .slice ao49 (List.length (lsO 1 0 255 (tkR 4 (tkR 4 l s) (tkS 4 l s)) (tkS 4 (tkR 4 l s) (tkS 4 l s)))) cp50, .slice oa73 (List.length bl75) oc74, .slice oa95 (List.length xs97) oc96] [.box br [.slice ta91 (List.length ((extsM ((listM 2 1 65535 (lsR 1 0 255 (tkR 4 (tkR 4 l s) (tkS 4 l s)) (tkS 4 (tkR 4 l s) (tkS 4 l s))) (lsS 1 0 255 (tkR 4 (tkR 4 l s) (tkS 4 l s)) (tkS 4 (tkR 4 l s) (tkS 4 l s))) o).2.1) ((listM 2 1 65535 (lsR 1 0 255 (tkR 4 (tkR 4 l s) (tkS 4 l s)) (tkS 4 (tkR 4 l s) (tkS 4 l s))) (lsS 1 0 255 (tkR 4 (tkR 4 l s) (tkS 4 l s)) (tkS 4 (tkR 4 l s) (tkS 4 l s))) o).2.2.1) ((listM 2 1 65535 (lsR 1 0 255 (tkR 4 (tkR 4 l s) (tkS 4 l s)) (tkS 4 (tkR 4 l s) (tkS 4 l s))) (lsS 1 0 255 (tkR 4 (tkR 4 l s) (tkS 4 l s)) (tkS 4 (tkR 4 l s) (tkS 4 l s))) o).2.2.2)).2.1)) tc92, .bool ((extsM ((listM 2 1 65535 (lsR 1 0 255 (tkR 4 (tkR 4 l s) (tkS 4 l s)) (tkS 4 (tkR 4 l s) (tkS 4 l s))) (lsS 1 0 255 (tkR 4 (tkR 4 l s) (tkS 4 l s)) (tkS 4 (tkR 4 l s) (tkS 4 l s))) o).2.1) ((listM 2 1 65535 (lsR 1 0 255 (tkR 4 (tkR 4 l s) (tkS 4 l s)) (tkS 4 (tkR 4 l s) (tkS 4 l s))) (lsS 1 0 255 (tkR 4 (tkR 4 l s) (tkS 4 l s)) (tkS 4 (tkR 4 l s) (tkS 4 l s))) o).2.2.1) ((listM 2 1 65535 (lsR 1 0 255 (tkR 4 (tkR 4 l s) (tkS 4 l s)) (tkS 4 (tkR 4 l s) (tkS 4 l s))) (lsS 1 0 255 (tkR 4 (tkR 4 l s) (tkS 4 l s)) (tkS 4 (tkR 4 l s) (tkS 4 l s))) o).2.2.2)).2.2.1), .bool ((extsM ((listM 2 1 65535 (lsR 1 0 255 (tkR 4 (tkR 4 l s) (tkS 4 l s)) (tkS 4 (tkR 4 l s) (tkS 4 l s))) (lsS 1 0 255 (tkR 4 (tkR 4 l s) (tkS 4 l s)) (tkS 4 (tkR 4 l s) (tkS 4 l s))) o).2.1) ((listM 2 1 65535 (lsR 1 0 255 (tkR 4 (tkR 4 l s) (tkS 4 l s)) (tkS 4 (tkR 4 l s) (tkS 4 l s))) (lsS 1 0 255 (tkR 4 (tkR 4 l s) (tkS 4 l s)) (tkS 4 (tkR 4 l s) (tkS 4 l s))) o).2.2.1) ((listM 2 1 65535 (lsR 1 0 255 (tkR 4 (tkR 4 l s) (tkS 4 l s)) (tkS 4 (tkR 4 l s) (tkS 4 l s))) (lsS 1 0 255 (tkR 4 (tkR 4 l s) (tkS 4 l s)) (tkS 4 (tkR 4 l s) (tkS 4 l s))) o).2.2.2)).2.2.2)] 120, .vec oa95 oc96 2 (List.flatMap fExt xs97) 147, .grp (List.flatMap innExt xs97), .vec oa73 oc74 1 (bys bl75) 5, .vec ao49 cp50 1 (bys (lsO 1 0 255 (tkR 4 (tkR 4 l s) (tkS 4 l s)) (tkS 4 (tkR 4 l s) (tkS 4 l s)))) 5, .box bk1 [.int .u32 ((UInt32.toNat (UInt32.ofNat (nbV 4 l s)) : Nat) : Int), .int .u32 ((UInt32.toNat (UInt32.ofNat (nbV 4 (tkR 4 l s) (tkS 4 l s))) : Nat) : Int), .slice ao49 (List.length (lsO 1 0 255 (tkR 4 (tkR 4 l s) (tkS 4 l s)) (tkS 4 (tkR 4 l s) (tkS 4 l s)))) cp50, .slice oa73 (List.length bl75) oc74, .slice oa95 (List.length xs97) oc96] 86, .box bk20 [.int .u32 ((UInt32.toNat (UInt32.ofNat (nbV 4 l s)) : Nat) : Int), .int .u32 ((UInt32.toNat (UInt32.ofNat (nbV 4 (tkR 4 l s) (tkS 4 l s))) : Nat) : Int), .slice ao49 (List.length (lsO 1 0 255 (tkR 4 (tkR 4 l s) (tkS 4 l s)) (tkS 4 (tkR 4 l s) (tkS 4 l s)))) cp50, .slice oa73 (List.length bl75) oc74, .slice oa95 (List.length xs97) oc96] 86] En114 Hv112 rfl rfl (by simp) (one_all (by kernel_rfl)) rfl rfl fun ac115 wo116 En117 Hv118 => ?_
 refine f_e ?_
 refine then_normal ?_
 refine wp_ret ?_
 refine d_cell1 (v := .agg #[.int .u32 ((UInt32.toNat (UInt32.ofNat (nbV 4 l s)) : Nat) : Int), .int .u32 ((UInt32.toNat (UInt32.ofNat (nbV 4 (tkR 4 l s) (tkS 4 l s))) : Nat) : Int), .slice ao49 (List.length (lsO 1 0 255 (tkR 4 (tkR 4 l s) (tkS 4 l s)) (tkS 4 (tkR 4 l s) (tkS 4 l s)))) cp50, .slice oa73 (List.length bl75) oc74, .slice oa95 (List.length xs97) oc96]) (t := 2) (T := 86) (ad := ⟨bk1, 0, none⟩) En117 (by kernel_rfl) (by kernel_rfl) (Ev.cellAgg (t := 86) (k := 5) (off := 0) (m := 5) (xs := [.int .u32 ((UInt32.toNat (UInt32.ofNat (nbV 4 l s)) : Nat) : Int), .int .u32 ((UInt32.toNat (UInt32.ofNat (nbV 4 (tkR 4 l s) (tkS 4 l s))) : Nat) : Int), .slice ao49 (List.length (lsO 1 0 255 (tkR 4 (tkR 4 l s) (tkS 4 l s)) (tkS 4 (tkR 4 l s) (tkS 4 l s)))) cp50, .slice oa73 (List.length bl75) oc74, .slice oa95 (List.length xs97) oc96]) Hv118 rfl rfl rfl (by kernel_rfl) (by kernel_rfl)) ?_
 exact ⟨ta91, tc92, (UInt32.ofNat (nbV 4 l s)), (UInt32.ofNat (nbV 4 (tkR 4 l s) (tkS 4 l s))), ao49, cp50, (lsO 1 0 255 (tkR 4 (tkR 4 l s) (tkS 4 l s)) (tkS 4 (tkR 4 l s) (tkS 4 l s))), oa73, oc74, bl75, oa95, oc96, xs97, rfl, Hv118.pk [0, 4, 3, 1, 2], ((((hs10.trans hs33).trans hs53).trans hs71).trans hs93), (by rw [hpu94, hpu72]; rfl), (Nat.le_of_succ_le (lsO_32 (by decide) _ _)), (by rw [hpu72]; exact (Nat.le_of_succ_le (lsO_32 (by decide) _ _))), hf98, hf99⟩

theorem got_gettic (w : World) (a : Option Addr) (c : Nat) (l : Bs) (i : InB w [] a c l) : Calls Try.prog 193 #[.slice a (List.length l) c, .func (.func 194) #[] #[]] w fun e w' => ∃ xva xvb oac occ blc oad ocd bld oae oce xse, e = .returned (.tuple #[.agg #[uv32 xva, uv32 xvb, .slice oac (List.length blc) occ, .slice oad (List.length bld) ocd, .slice oae (List.length xse) oce], .int .i64 (gotA (ticM l false false))]) ∧ Ev w [] w' [.vec oac occ 1 (bys blc) 5, .vec oad ocd 1 (bys bld) 5, .vec oae oce 2 (List.flatMap fExt xse) 147, .grp (List.flatMap innExt xse)] ∧ (xva, xvb, blc, bld, List.map (fun y : RExt => (y.1, y.2.1.l)) xse) = gotV (0, 0, [], [], []) (ticM l false false) ∧ List.length blc ≤ 4294967296 ∧ List.length bld ≤ 4294967296 ∧ List.length xse ≤ 4294967296 ∧ ∀ y ∈ xse, List.length y.2.1.l ≤ 140737488351232 := by
 refine d_0 [(0, .slice a (List.length l) c), (1, .func (.func 194) #[] #[])] 36 Go.Proofs.Try.func193 Go.Proofs.Try.ntmps193 (Heap.nil _) fun act0 En0 Hv0 => ?_
 refine wp_seq ?_
 refine region_from ?_
 refine f_o ?_
 refine m_z 86 [.int .u32 0, .int .u32 0, .slice none 0 0, .slice none 0 0, .slice none 0 0] En0 Hv0 fun ac2 wo3 bk1 En4 Hv5 => ?_
 refine d_e [0,1,4,5] [] En4 fun ac6 En7 => ?_
 refine then_normal ?_
 refine wp_seq ?_
 refine region_from ?_
 refine f_o ?_
 refine m_z 86 [.int .u32 0, .int .u32 0, .slice none 0 0, .slice none 0 0, .slice none 0 0] En7 Hv5 fun ac9 wo10 bk8 En11 Hv12 => ?_
 refine f_e ?_
 refine then_normal ?_
 refine wp_seq ?_
 refine region_from ?_
 refine d_k [1,4,5,6,10] [] 2 En11 fun ac13 En14 => ?_
 refine f_o ?_
 refine m_m 120 [.slice a (List.length l) c, .bool false, .bool false] En14 Hv12 fun ac16 wo17 bk15 En18 Hv19 => ?_
 refine d_e [1,4,5,6,7] [] En18 fun ac20 En21 => ?_
 refine then_normal ?_
 refine wp_seq ?_
 refine region_from ?_
 refine d_k [4,5,6,7,12,13] [] 2 En21 fun ac22 En23 => ?_
 refine f_o ?_
 refine c_l [2] (M := [.box bk15 [.slice a (List.length l) c, .bool false, .bool false] 120]) En23 Hv19 (fun hM43 => gettic1 _ bk15 a c l false false ((i.ev Hv19).pick [2] (by kernel_rfl)) hM43) ?_
 rintro _ wo44 ⟨ta24, tc25, xva28, xvb29, oac30, occ31, blc32, oad33, ocd34, bld35, oae36, oce37, xse38, rfl, he45, hs26, hpu27, hf39, hf40, hf41, hf42⟩
 refine ⟨_, _, [.box bk15 [.slice ta24 (List.length ((ticM l false false).2.1)) tc25, .bool ((ticM l false false).2.2.1), .bool ((ticM l false false).2.2.2)] 120, .vec oac30 occ31 1 (bys blc32) 5, .vec oad33 ocd34 1 (bys bld35) 5, .vec oae36 oce37 2 (List.flatMap fExt xse38) 147, .grp (List.flatMap innExt xse38), .box bk1 [.int .u32 0, .int .u32 0, .slice none 0 0, .slice none 0 0, .slice none 0 0] 86, .box bk8 [.int .u32 0, .int .u32 0, .slice none 0 0, .slice none 0 0, .slice none 0 0] 86], rfl, he45, by kernel_rfl, fun ac47 En48 Hv49 => ?_⟩
 refine f_o ?_
 refine m_z 86 [.int .u32 0, .int .u32 0, .slice none 0 0, .slice none 0 0, .slice none 0 0] En48 Hv49 fun ac51 wo52 bk50 En53 Hv54 => ?_
 refine f_o ?_
 refine m_g 7 0 5 [uv32 xva28, uv32 xvb29, .slice oac30 (List.length blc32) occ31, .slice oad33 (List.length bld35) ocd34, .slice oae36 (List.length xse38) oce37] [uv32 xva28, uv32 xvb29, .slice oac30 (List.length blc32) occ31, .slice oad33 (List.length bld35) ocd34, .slice oae36 (List.length xse38) oce37] [.box bk15 [.slice ta24 (List.length ((ticM l false false).2.1)) tc25, .bool ((ticM l false false).2.2.1), .bool ((ticM l false false).2.2.2)] 120, .vec oac30 occ31 1 (bys blc32) 5, .vec oad33 ocd34 1 (bys bld35) 5, .vec oae36 oce37 2 (List.flatMap fExt xse38) 147, .grp (List.flatMap innExt xse38), .box bk1 [.int .u32 0, .int .u32 0, .slice none 0 0, .slice none 0 0, .slice none 0 0] 86, .box bk8 [.int .u32 0, .int .u32 0, .slice none 0 0, .slice none 0 0, .slice none 0 0] 86, .box bk50 [uv32 xva28, uv32 xvb29, .slice oac30 (List.length blc32) occ31, .slice oad33 (List.length bld35) ocd34, .slice oae36 (List.length xse38) oce37] 86] En53 Hv54 rfl rfl (by simp) (one_all (by kernel_rfl)) rfl rfl fun ac55 wo56 En57 Hv58 => ?_
 refine f_e ?_
 refine then_normal ?_
 refine wp_seq ?_
 refine wp_block ?_
 refine wp_seq ?_
 refine region_from ?_
 refine d_k [4,5,6,7,8,18] [] 3 En57 fun ac59 En60 => ?_
 refine f_o ?_
 refine m_l 0 En60 Hv58 fun ac61 En62 => ?_
 refine d_k [4,5,6,7,8,20] [] 5 En62 fun ac63 En64 => ?_
 rcases Bool.eq_false_or_eq_true ((ticM l false false).2.2.1) with hb65 | hb65
 ·
  have En66 := En64.fx (t := 20) (congrArg Value.bool hb65)
  have hp67 : (ticM l false false).2.2.1 = true := hb65
  refine d_e [4,5,6,7,8,15] [] En66 fun ac68 En69 => ?_
  refine then_normal ?_
  refine c_t En69 ?_
  refine wp_seq ?_
  refine region_from ?_
  refine f_o ?_
  refine m_a 6 0 5 [.int .u32 0, .int .u32 0, .slice none 0 0, .slice none 0 0, .slice none 0 0] En69 Hv58 rfl rfl rfl fun ac70 En71 => ?_
  refine f_o ?_
  refine m_g 5 0 5 [.int .u32 0, .int .u32 0, .slice none 0 0, .slice none 0 0, .slice none 0 0] [.int .u32 0, .int .u32 0, .slice none 0 0, .slice none 0 0, .slice none 0 0] [.box bk15 [.slice ta24 (List.length ((ticM l false false).2.1)) tc25, .bool ((ticM l false false).2.2.1), .bool ((ticM l false false).2.2.2)] 120, .vec oac30 occ31 1 (bys blc32) 5, .vec oad33 ocd34 1 (bys bld35) 5, .vec oae36 oce37 2 (List.flatMap fExt xse38) 147, .grp (List.flatMap innExt xse38), .box bk1 [.int .u32 0, .int .u32 0, .slice none 0 0, .slice none 0 0, .slice none 0 0] 86, .box bk8 [.int .u32 0, .int .u32 0, .slice none 0 0, .slice none 0 0, .slice none 0 0] 86, .box bk50 [uv32 xva28, uv32 xvb29, .slice oac30 (List.length blc32) occ31, .slice oad33 (List.length bld35) ocd34, .slice oae36 (List.length xse38) oce37] 86] En71 Hv58 rfl rfl (by simp) (one_all (by kernel_rfl)) rfl rfl fun ac72 wo73 En74 Hv75 => ?_
  refine d_e [4,5,6,7,8] [] En74 fun ac76 En77 => ?_
  refine then_normal ?_
  refine wp_ret ?_
  refine block_ret ?_
  refine then_ret ?_
  refine d_cell_tmp (v := .agg #[.int .u32 0, .int .u32 0, .slice none 0 0, .slice none 0 0, .slice none 0 0]) (x := .int .i64 50) (t := 4) (T := 86) (ad := ⟨bk1, 0, none⟩) (u := 5) En77 (by kernel_rfl) (by kernel_rfl) (Ev.cellAgg (t := 86) (k := 5) (off := 0) (m := 5) (xs := [.int .u32 0, .int .u32 0, .slice none 0 0, .slice none 0 0, .slice none 0 0]) Hv75 rfl rfl rfl (by kernel_rfl) (by kernel_rfl)) (by kernel_rfl) ?_
  have eA : gotA (ticM l false false) = 50 := Eq.symm (by first | exact end_1 (by assumption) | exact end_2 (by omega) | exact end_3 (by assumption) (by omega) (by assumption))
  rw [gotV_n eA (by decide), eA]
  have Hv78 : Ev w [] wo73 [.box bk15 [.slice ta24 (List.length ((ticM l false false).2.1)) tc25, .bool ((ticM l false false).2.2.1), .bool ((ticM l false false).2.2.2)] 120, .vec oac30 occ31 1 (bys blc32) 5, .vec oad33 ocd34 1 (bys bld35) 5, .vec oae36 oce37 2 (List.flatMap fExt xse38) 147, .grp (List.flatMap innExt xse38), .box bk1 [.int .u32 0, .int .u32 0, .slice none 0 0, .slice none 0 0, .slice none 0 0] 86, .box bk8 [.int .u32 0, .int .u32 0, .slice none 0 0, .slice none 0 0, .slice none 0 0] 86, .box bk50 [uv32 xva28, uv32 xvb29, .slice oac30 (List.length blc32) occ31, .slice oad33 (List.length bld35) ocd34, .slice oae36 (List.length xse38) oce37] 86, .vec none 0 1 (bys []) 5] := Ev.nil (sz := 1) (T := 5) Hv75
  have Hv79 : Ev w [] wo73 [.box bk15 [.slice ta24 (List.length ((ticM l false false).2.1)) tc25, .bool ((ticM l false false).2.2.1), .bool ((ticM l false false).2.2.2)] 120, .vec oac30 occ31 1 (bys blc32) 5, .vec oad33 ocd34 1 (bys bld35) 5, .vec oae36 oce37 2 (List.flatMap fExt xse38) 147, .grp (List.flatMap innExt xse38), .box bk1 [.int .u32 0, .int .u32 0, .slice none 0 0, .slice none 0 0, .slice none 0 0] 86, .box bk8 [.int .u32 0, .int .u32 0, .slice none 0 0, .slice none 0 0, .slice none 0 0] 86, .box bk50 [uv32 xva28, uv32 xvb29, .slice oac30 (List.length blc32) occ31, .slice oad33 (List.length bld35) ocd34, .slice oae36 (List.length xse38) oce37] 86, .vec none 0 1 (bys []) 5, .vec none 0 1 (bys []) 5] := Ev.nil (sz := 1) (T := 5) Hv78
  have Hv80 : Ev w [] wo73 [.box bk15 [.slice ta24 (List.length ((ticM l false false).2.1)) tc25, .bool ((ticM l false false).2.2.1), .bool ((ticM l false false).2.2.2)] 120, .vec oac30 occ31 1 (bys blc32) 5, .vec oad33 ocd34 1 (bys bld35) 5, .vec oae36 oce37 2 (List.flatMap fExt xse38) 147, .grp (List.flatMap innExt xse38), .box bk1 [.int .u32 0, .int .u32 0, .slice none 0 0, .slice none 0 0, .slice none 0 0] 86, .box bk8 [.int .u32 0, .int .u32 0, .slice none 0 0, .slice none 0 0, .slice none 0 0] 86, .box bk50 [uv32 xva28, uv32 xvb29, .slice oac30 (List.length blc32) occ31, .slice oad33 (List.length bld35) ocd34, .slice oae36 (List.length xse38) oce37] 86, .vec none 0 1 (bys []) 5, .vec none 0 1 (bys []) 5, .vec none 0 2 (List.flatMap fExt []) 147] := Ev.nil (sz := 2) (T := 147) Hv79
  have Hv81 : Ev w [] wo73 [.box bk15 [.slice ta24 (List.length ((ticM l false false).2.1)) tc25, .bool ((ticM l false false).2.2.1), .bool ((ticM l false false).2.2.2)] 120, .vec oac30 occ31 1 (bys blc32) 5, .vec oad33 ocd34 1 (bys bld35) 5, .vec oae36 oce37 2 (List.flatMap fExt xse38) 147, .grp (List.flatMap innExt xse38), .box bk1 [.int .u32 0, .int .u32 0, .slice none 0 0, .slice none 0 0, .slice none 0 0] 86, .box bk8 [.int .u32 0, .int .u32 0, .slice none 0 0, .slice none 0 0, .slice none 0 0] 86, .box bk50 [uv32 xva28, uv32 xvb29, .slice oac30 (List.length blc32) occ31, .slice oad33 (List.length bld35) ocd34, .slice oae36 (List.length xse38) oce37] 86, .vec none 0 1 (bys []) 5, .vec none 0 1 (bys []) 5, .vec none 0 2 (List.flatMap fExt []) 147, .grp (List.flatMap innExt [])] := Ev.grp0 Hv80
  exact ⟨0, 0, none, 0, [], none, 0, [], none, 0, [], rfl, Hv81.pk [8, 9, 10, 11], rfl, (Nat.zero_le _), (Nat.zero_le _), (Nat.zero_le _), (fun y hy => by cases hy)⟩
 ·
  have En82 := En64.fx (t := 20) (congrArg Value.bool hb65)
  have hp83 : ¬ ((ticM l false false).2.2.1 = true) := Bool.eq_false_iff.1 hb65
  refine d_k [4,5,6,7,8,20,23] [] 8 En82 fun ac84 En85 => ?_
  refine f_o ?_
  refine m_l 0 En85 Hv58 fun ac86 En87 => ?_
  refine d_e [4,5,6,7,8,15] [] En87 fun ac88 En89 => ?_
  refine then_normal ?_
  refine c_d (((List.length ((ticM l false false).2.1) : Nat) : Int) > (0 : Int)) En89 (fun hc90 => ?_) (fun hc90 => ?_)
  ·
   refine wp_seq ?_
   refine region_from ?_
   refine f_o ?_
   refine m_a 6 0 5 [.int .u32 0, .int .u32 0, .slice none 0 0, .slice none 0 0, .slice none 0 0] En89 Hv58 rfl rfl rfl fun ac91 En92 => ?_
   refine f_o ?_
   refine m_g 5 0 5 [.int .u32 0, .int .u32 0, .slice none 0 0, .slice none 0 0, .slice none 0 0] [.int .u32 0, .int .u32 0, .slice none 0 0, .slice none 0 0, .slice none 0 0] [.box bk15 [.slice ta24 (List.length ((ticM l false false).2.1)) tc25, .bool ((ticM l false false).2.2.1), .bool ((ticM l false false).2.2.2)] 120, .vec oac30 occ31 1 (bys blc32) 5, .vec oad33 ocd34 1 (bys bld35) 5, .vec oae36 oce37 2 (List.flatMap fExt xse38) 147, .grp (List.flatMap innExt xse38), .box bk1 [.int .u32 0, .int .u32 0, .slice none 0 0, .slice none 0 0, .slice none 0 0] 86, .box bk8 [.int .u32 0, .int .u32 0, .slice none 0 0, .slice none 0 0, .slice none 0 0] 86, .box bk50 [uv32 xva28, uv32 xvb29, .slice oac30 (List.length blc32) occ31, .slice oad33 (List.length bld35) ocd34, .slice oae36 (List.length xse38) oce37] 86] En92 Hv58 rfl rfl (by simp) (one_all (by kernel_rfl)) rfl rfl fun ac93 wo94 En95 Hv96 => ?_
   refine d_e [4,5,6,7,8] [] En95 fun ac97 En98 => ?_
   refine then_normal ?_
   refine wp_ret ?_
   refine block_ret ?_
   refine then_ret ?_
   refine d_cell_tmp (v := .agg #[.int .u32 0, .int .u32 0, .slice none 0 0, .slice none 0 0, .slice none 0 0]) (x := .int .i64 50) (t := 4) (T := 86) (ad := ⟨bk1, 0, none⟩) (u := 5) En98 (by kernel_rfl) (by kernel_rfl) (Ev.cellAgg (t := 86) (k := 5) (off := 0) (m := 5) (xs := [.int .u32 0, .int .u32 0, .slice none 0 0, .slice none 0 0, .slice none 0 0]) Hv96 rfl rfl rfl (by kernel_rfl) (by kernel_rfl)) (by kernel_rfl) ?_
   have eA : gotA (ticM l false false) = 50 := Eq.symm (by first | exact end_1 (by assumption) | exact end_2 (by omega) | exact end_3 (by assumption) (by omega) (by assumption))
   rw [gotV_n eA (by decide), eA]
   have Hv99 : Ev w [] wo94 [.box bk15 [.slice ta24 (List.length ((ticM l false false).2.1)) tc25, .bool ((ticM l false false).2.2.1), .bool ((ticM l false false).2.2.2)] 120, .vec oac30 occ31 1 (bys blc32) 5, .vec oad33 ocd34 1 (bys bld35) 5, .vec oae36 oce37 2 (List.flatMap fExt xse38) 147, .grp (List.flatMap innExt xse38), .box bk1 [.int .u32 0, .int .u32 0, .slice none 0 0, .slice none 0 0, .slice none 0 0] 86, .box bk8 [.int .u32 0, .int .u32 0, .slice none 0 0, .slice none 0 0, .slice none 0 0] 86, .box bk50 [uv32 xva28, uv32 xvb29, .slice oac30 (List.length blc32) occ31, .slice oad33 (List.length bld35) ocd34, .slice oae36 (List.length xse38) oce37] 86, .vec none 0 1 (bys []) 5] := Ev.nil (sz := 1) (T := 5) Hv96
   have Hv100 : Ev w [] wo94 [.box bk15 [.slice ta24 (List.length ((ticM l false false).2.1)) tc25, .bool ((ticM l false false).2.2.1), .bool ((ticM l false false).2.2.2)] 120, .vec oac30 occ31 1 (bys blc32) 5, .vec oad33 ocd34 1 (bys bld35) 5, .vec oae36 oce37 2 (List.flatMap fExt xse38) 147, .grp (List.flatMap innExt xse38), .box bk1 [.int .u32 0, .int .u32 0, .slice none 0 0, .slice none 0 0, .slice none 0 0] 86, .box bk8 [.int .u32 0, .int .u32 0, .slice none 0 0, .slice none 0 0, .slice none 0 0] 86, .box bk50 [uv32 xva28, uv32 xvb29, .slice oac30 (List.length blc32) occ31, .slice oad33 (List.length bld35) ocd34, .slice oae36 (List.length xse38) oce37] 86, .vec none 0 1 (bys []) 5, .vec none 0 1 (bys []) 5] := Ev.nil (sz := 1) (T := 5) Hv99
   have Hv101 : Ev w [] wo94 [.box bk15 [.slice ta24 (List.length ((ticM l false false).2.1)) tc25, .bool ((ticM l false false).2.2.1), .bool ((ticM l false false).2.2.2)] 120, .vec oac30 occ31 1 (bys blc32) 5, .vec oad33 ocd34 1 (bys bld35) 5, .vec oae36 oce37 2 (List.flatMap fExt xse38) 147, .grp (List.flatMap innExt xse38), .box bk1 [.int .u32 0, .int .u32 0, .slice none 0 0, .slice none 0 0, .slice none 0 0] 86, .box bk8 [.int .u32 0, .int .u32 0, .slice none 0 0, .slice none 0 0, .slice none 0 0] 86, .box bk50 [uv32 xva28, uv32 xvb29, .slice oac30 (List.length blc32) occ31, .slice oad33 (List.length bld35) ocd34, .slice oae36 (List.length xse38) oce37] 86, .vec none 0 1 (bys []) 5, .vec none 0 1 (bys []) 5, .vec none 0 2 (List.flatMap fExt []) 147] := Ev.nil (sz := 2) (T := 147) Hv100
   have Hv102 : Ev w [] wo94 [.box bk15 [.slice ta24 (List.length ((ticM l false false).2.1)) tc25, .bool ((ticM l false false).2.2.1), .bool ((ticM l false false).2.2.2)] 120, .vec oac30 occ31 1 (bys blc32) 5, .vec oad33 ocd34 1 (bys bld35) 5, .vec oae36 oce37 2 (List.flatMap fExt xse38) 147, .grp (List.flatMap innExt xse38), .box bk1 [.int .u32 0, .int .u32 0, .slice none 0 0, .slice none 0 0, .slice none 0 0] 86, .box bk8 [.int .u32 0, .int .u32 0, .slice none 0 0, .slice none 0 0, .slice none 0 0] 86, .box bk50 [uv32 xva28, uv32 xvb29, .slice oac30 (List.length blc32) occ31, .slice oad33 (List.length bld35) ocd34, .slice oae36 (List.length xse38) oce37] 86, .vec none 0 1 (bys []) 5, .vec none 0 1 (bys []) 5, .vec none 0 2 (List.flatMap fExt []) 147, .grp (List.flatMap innExt [])] := Ev.grp0 Hv101
   exact ⟨0, 0, none, 0, [], none, 0, [], none, 0, [], rfl, Hv102.pk [8, 9, 10, 11], rfl, (Nat.zero_le _), (Nat.zero_le _), (Nat.zero_le _), (fun y hy => by cases hy)⟩
  ·
   refine wp_seq ?_
   refine region_from ?_
   refine d_k [4,5,6,7,8,32] [] 3 En89 fun ac103 En104 => ?_
   refine f_o ?_
   refine m_l 0 En104 Hv58 fun ac105 En106 => ?_
   refine d_e [4,5,6,7,8,29] [] En106 fun ac107 En108 => ?_
   refine then_normal ?_
   refine cond_at En108 (t := (ticM l false false).2.2.2) (by kernel_rfl) (fun hc109 => ?_) (fun hc109 => ?_)
   ·
    replace hc109 : (ticM l false false).2.2.2 = true := hc109
    refine wp_seq ?_
    refine region_from ?_
    refine f_o ?_
    refine m_a 6 0 5 [.int .u32 0, .int .u32 0, .slice none 0 0, .slice none 0 0, .slice none 0 0] En108 Hv58 rfl rfl rfl fun ac110 En111 => ?_
    refine f_o ?_
    refine m_g 5 0 5 [.int .u32 0, .int .u32 0, .slice none 0 0, .slice none 0 0, .slice none 0 0] [.int .u32 0, .int .u32 0, .slice none 0 0, .slice none 0 0, .slice none 0 0] [.box bk15 [.slice ta24 (List.length ((ticM l false false).2.1)) tc25, .bool ((ticM l false false).2.2.1), .bool ((ticM l false false).2.2.2)] 120, .vec oac30 occ31 1 (bys blc32) 5, .vec oad33 ocd34 1 (bys bld35) 5, .vec oae36 oce37 2 (List.flatMap fExt xse38) 147, .grp (List.flatMap innExt xse38), .box bk1 [.int .u32 0, .int .u32 0, .slice none 0 0, .slice none 0 0, .slice none 0 0] 86, .box bk8 [.int .u32 0, .int .u32 0, .slice none 0 0, .slice none 0 0, .slice none 0 0] 86, .box bk50 [uv32 xva28, uv32 xvb29, .slice oac30 (List.length blc32) occ31, .slice oad33 (List.length bld35) ocd34, .slice oae36 (List.length xse38) oce37] 86] En111 Hv58 rfl rfl (by simp) (one_all (by kernel_rfl)) rfl rfl fun ac112 wo113 En114 Hv115 => ?_
    refine d_e [4,5,6,7,8] [] En114 fun ac116 En117 => ?_
    refine then_normal ?_
    refine wp_ret ?_
    refine block_ret ?_
    refine then_ret ?_
    refine d_cell_tmp (v := .agg #[.int .u32 0, .int .u32 0, .slice none 0 0, .slice none 0 0, .slice none 0 0]) (x := .int .i64 47) (t := 4) (T := 86) (ad := ⟨bk1, 0, none⟩) (u := 5) En117 (by kernel_rfl) (by kernel_rfl) (Ev.cellAgg (t := 86) (k := 5) (off := 0) (m := 5) (xs := [.int .u32 0, .int .u32 0, .slice none 0 0, .slice none 0 0, .slice none 0 0]) Hv115 rfl rfl rfl (by kernel_rfl) (by kernel_rfl)) (by kernel_rfl) ?_
    have eA : gotA (ticM l false false) = 47 := Eq.symm (by first | exact end_1 (by assumption) | exact end_2 (by omega) | exact end_3 (by assumption) (by omega) (by assumption))
    rw [gotV_n eA (by decide), eA]
    have Hv118 : Ev w [] wo113 [.box bk15 [.slice ta24 (List.length ((ticM l false false).2.1)) tc25, .bool ((ticM l false false).2.2.1), .bool ((ticM l false false).2.2.2)] 120, .vec oac30 occ31 1 (bys blc32) 5, .vec oad33 ocd34 1 (bys bld35) 5, .vec oae36 oce37 2 (List.flatMap fExt xse38) 147, .grp (List.flatMap innExt xse38), .box bk1 [.int .u32 0, .int .u32 0, .slice none 0 0, .slice none 0 0, .slice none 0 0] 86, .box bk8 [.int .u32 0, .int .u32 0, .slice none 0 0, .slice none 0 0, .slice none 0 0] 86, .box bk50 [uv32 xva28, uv32 xvb29, .slice oac30 (List.length blc32) occ31, .slice oad33 (List.length bld35) ocd34, .slice oae36 (List.length xse38) oce37] 86, .vec none 0 1 (bys []) 5] := Ev.nil (sz := 1) (T := 5) Hv115
    have Hv119 : Ev w [] wo113 [.box bk15 [.slice ta24 (List.length ((ticM l false false).2.1)) tc25, .bool ((ticM l false false).2.2.1), .bool ((ticM l false false).2.2.2)] 120, .vec oac30 occ31 1 (bys blc32) 5, .vec oad33 ocd34 1 (bys bld35) 5, .vec oae36 oce37 2 (List.flatMap fExt xse38) 147, .grp (List.flatMap innExt xse38), .box bk1 [.int .u32 0, .int .u32 0, .slice none 0 0, .slice none 0 0, .slice none 0 0] 86, .box bk8 [.int .u32 0, .int .u32 0, .slice none 0 0, .slice none 0 0, .slice none 0 0] 86, .box bk50 [uv32 xva28, uv32 xvb29, .slice oac30 (List.length blc32) occ31, .slice oad33 (List.length bld35) ocd34, .slice oae36 (List.length xse38) oce37] 86, .vec none 0 1 (bys []) 5, .vec none 0 1 (bys []) 5] := Ev.nil (sz := 1) (T := 5) Hv118
    have Hv120 : Ev w [] wo113 [.box bk15 [.slice ta24 (List.length ((ticM l false false).2.1)) tc25, .bool ((ticM l false false).2.2.1), .bool ((ticM l false false).2.2.2)] 120, .vec oac30 occ31 1 (bys blc32) 5, .vec oad33 ocd34 1 (bys bld35) 5, .vec oae36 oce37 2 (List.flatMap fExt xse38) 147, .grp (List.flatMap innExt xse38), .box bk1 [.int .u32 0, .int .u32 0, .slice none 0 0, .slice none 0 0, .slice none 0 0] 86, .box bk8 [.int .u32 0, .int .u32 0, .slice none 0 0, .slice none 0 0, .slice none 0 0] 86, .box bk50 [uv32 xva28, uv32 xvb29, .slice oac30 (List.length blc32) occ31, .slice oad33 (List.length bld35) ocd34, .slice oae36 (List.length xse38) oce37] 86, .vec none 0 1 (bys []) 5, .vec none 0 1 (bys []) 5, .vec none 0 2 (List.flatMap fExt []) 147] := Ev.nil (sz := 2) (T := 147) Hv119
    have Hv121 : Ev w [] wo113 [.box bk15 [.slice ta24 (List.length ((ticM l false false).2.1)) tc25, .bool ((ticM l false false).2.2.1), .bool ((ticM l false false).2.2.2)] 120, .vec oac30 occ31 1 (bys blc32) 5, .vec oad33 ocd34 1 (bys bld35) 5, .vec oae36 oce37 2 (List.flatMap fExt xse38) 147, .grp (List.flatMap innExt xse38), .box bk1 [.int .u32 0, .int .u32 0, .slice none 0 0, .slice none 0 0, .slice none 0 0] 86, .box bk8 [.int .u32 0, .int .u32 0, .slice none 0 0, .slice none 0 0, .slice none 0 0] 86, .box bk50 [uv32 xva28, uv32 xvb29, .slice oac30 (List.length blc32) occ31, .slice oad33 (List.length bld35) ocd34, .slice oae36 (List.length xse38) oce37] 86, .vec none 0 1 (bys []) 5, .vec none 0 1 (bys []) 5, .vec none 0 2 (List.flatMap fExt []) 147, .grp (List.flatMap innExt [])] := Ev.grp0 Hv120
    exact ⟨0, 0, none, 0, [], none, 0, [], none, 0, [], rfl, Hv121.pk [8, 9, 10, 11], rfl, (Nat.zero_le _), (Nat.zero_le _), (Nat.zero_le _), (fun y hy => by cases hy)⟩
   ·
    replace hc109 : ¬ ((ticM l false false).2.2.2 = true) := Bool.eq_false_iff.1 hc109
    refine wp_skip ?_
    refine block_normal ?_
    refine then_normal ?_
    refine wp_seq ?_
    refine region_from ?_
    refine f_o ?_
    refine m_a 7 0 5 [uv32 xva28, uv32 xvb29, .slice oac30 (List.length blc32) occ31, .slice oad33 (List.length bld35) ocd34, .slice oae36 (List.length xse38) oce37] En108 Hv58 rfl rfl rfl fun ac122 En123 => ?_
    refine f_o ?_
    refine m_g 5 0 5 [uv32 xva28, uv32 xvb29, .slice oac30 (List.length blc32) occ31, .slice oad33 (List.length bld35) ocd34, .slice oae36 (List.length xse38) oce37] [uv32 xva28, uv32 xvb29, .slice oac30 (List.length blc32) occ31, .slice oad33 (List.length bld35) ocd34, .slice oae36 (List.length xse38) oce37] [.box bk15 [.slice ta24 (List.length ((ticM l false false).2.1)) tc25, .bool ((ticM l false false).2.2.1), .bool ((ticM l false false).2.2.2)] 120, .vec oac30 occ31 1 (bys blc32) 5, .vec oad33 ocd34 1 (bys bld35) 5, .vec oae36 oce37 2 (List.flatMap fExt xse38) 147, .grp (List.flatMap innExt xse38), .box bk1 [uv32 xva28, uv32 xvb29, .slice oac30 (List.length blc32) occ31, .slice oad33 (List.length bld35) ocd34, .slice oae36 (List.length xse38) oce37] 86, .box bk8 [.int .u32 0, .int .u32 0, .slice none 0 0, .slice none 0 0, .slice none 0 0] 86, .box bk50 [uv32 xva28, uv32 xvb29, .slice oac30 (List.length blc32) occ31, .slice oad33 (List.length bld35) ocd34, .slice oae36 (List.length xse38) oce37] 86] En123 Hv58 rfl rfl (by simp) (one_all (by kernel_rfl)) rfl rfl fun ac124 wo125 En126 Hv127 => ?_
    refine d_e [4,5,6,7,8] [] En126 fun ac128 En129 => ?_
    refine then_normal ?_
    refine wp_ret ?_
    refine d_cell_tmp (v := .agg #[uv32 xva28, uv32 xvb29, .slice oac30 (List.length blc32) occ31, .slice oad33 (List.length bld35) ocd34, .slice oae36 (List.length xse38) oce37]) (x := .int .i64 0) (t := 4) (T := 86) (ad := ⟨bk1, 0, none⟩) (u := 5) En129 (by kernel_rfl) (by kernel_rfl) (Ev.cellAgg (t := 86) (k := 5) (off := 0) (m := 5) (xs := [uv32 xva28, uv32 xvb29, .slice oac30 (List.length blc32) occ31, .slice oad33 (List.length bld35) ocd34, .slice oae36 (List.length xse38) oce37]) Hv127 rfl rfl rfl (by kernel_rfl) (by kernel_rfl)) (by kernel_rfl) ?_
    have eA : gotA (ticM l false false) = 0 := (end_4 (by assumption) (by omega) (by assumption)).symm
    rw [gotV_0 eA, eA]
    exact ⟨xva28, xvb29, oac30, occ31, blc32, oad33, ocd34, bld35, oae36, oce37, xse38, rfl, Hv127.pk [1, 2, 3, 4], hpu27, hf39, hf40, hf41, hf42⟩

theorem getticket_go (w : World) (aq : Option Addr) (nq cq : Nat) (lq : List UInt8) (eq : nq = List.length lq) (iq : InB w [] aq cq lq) : Calls Try.prog 86 #[.slice aq nq cq] w fun e w' => ∃ xva xvb oac occ blc oad ocd bld oae oce xse, e = .returned (.tuple #[.agg #[uv32 xva, uv32 xvb, .slice oac (List.length blc) occ, .slice oad (List.length bld) ocd, .slice oae (List.length xse) oce], .int .i64 (gotA (ticM lq false false))]) ∧ Ev w [] w' [.vec oac occ 1 (bys blc) 5, .vec oad ocd 1 (bys bld) 5, .vec oae oce 2 (List.flatMap fExt xse) 147, .grp (List.flatMap innExt xse)] ∧ (xva, xvb, blc, bld, List.map (fun y : RExt => (y.1, y.2.1.l)) xse) = gotV (0, 0, [], [], []) (ticM lq false false) ∧ List.length blc ≤ 4294967296 ∧ List.length bld ≤ 4294967296 ∧ List.length xse ≤ 4294967296 ∧ ∀ y ∈ xse, List.length y.2.1.l ≤ 140737488351232 := by
 subst eq
 refine d_0 [(0, .slice aq (List.length lq) cq)] 8 Go.Proofs.Try.func86 Go.Proofs.Try.ntmps86 (Heap.nil _) fun act0 En0 Hv0 => ?_
 refine wp_seq ?_
 refine region_from ?_
 refine f_o ?_
 refine m_z 86 [.int .u32 0, .int .u32 0, .slice none 0 0, .slice none 0 0, .slice none 0 0] En0 Hv0 fun ac2 wo3 bk1 En4 Hv5 => ?_
 refine d_e [0,2,3] [] En4 fun ac6 En7 => ?_
 refine then_normal ?_
 refine wp_seq ?_
 refine region_from ?_
 refine d_k [2,3,4] [] 1 En7 fun ac8 En9 => ?_
 refine f_o ?_
 refine c_0 En9 Hv5 (got_gettic _ aq cq lq ((iq.ev Hv5).pick [] (by kernel_rfl))) ?_
 rintro _ wo27 ⟨xva10, xvb11, oac12, occ13, blc14, oad15, ocd16, bld17, oae18, oce19, xse20, rfl, he28, hpu21, hf22, hf23, hf24, hf25⟩
 refine ⟨_, _, _, rfl, he28, rfl, fun ac30 En31 Hv32 => ?_⟩
 refine d_k [2,3,6,7] [] 4 En31 fun ac33 En34 => ?_
 refine f_o ?_
 refine m_g 4 0 5 [uv32 xva10, uv32 xvb11, .slice oac12 (List.length blc14) occ13, .slice oad15 (List.length bld17) ocd16, .slice oae18 (List.length xse20) oce19] [uv32 xva10, uv32 xvb11, .slice oac12 (List.length blc14) occ13, .slice oad15 (List.length bld17) ocd16, .slice oae18 (List.length xse20) oce19] [.vec oac12 occ13 1 (bys blc14) 5, .vec oad15 ocd16 1 (bys bld17) 5, .vec oae18 oce19 2 (List.flatMap fExt xse20) 147, .grp (List.flatMap innExt xse20), .box bk1 [uv32 xva10, uv32 xvb11, .slice oac12 (List.length blc14) occ13, .slice oad15 (List.length bld17) ocd16, .slice oae18 (List.length xse20) oce19] 86] En34 Hv32 rfl rfl (by simp) (one_all (by kernel_rfl)) rfl rfl fun ac35 wo36 En37 Hv38 => ?_
 refine d_e [2,3] [] En37 fun ac39 En40 => ?_
 refine then_normal ?_
 refine wp_ret ?_
 refine d_cell_tmp (v := .agg #[uv32 xva10, uv32 xvb11, .slice oac12 (List.length blc14) occ13, .slice oad15 (List.length bld17) ocd16, .slice oae18 (List.length xse20) oce19]) (x := .int .i64 (gotA (ticM lq false false))) (t := 2) (T := 86) (ad := ⟨bk1, 0, none⟩) (u := 3) En40 (by kernel_rfl) (by kernel_rfl) (Ev.cellAgg (t := 86) (k := 4) (off := 0) (m := 5) (xs := [uv32 xva10, uv32 xvb11, .slice oac12 (List.length blc14) occ13, .slice oad15 (List.length bld17) ocd16, .slice oae18 (List.length xse20) oce19]) Hv38 rfl rfl rfl (by kernel_rfl) (by kernel_rfl)) (by kernel_rfl) ?_
 exact ⟨xva10, xvb11, oac12, occ13, blc14, oad15, ocd16, bld17, oae18, oce19, xse20, rfl, Hv38.pk [0, 1, 2, 3], hpu21, hf22, hf23, hf24, hf25⟩

end Go.Proofs.Ytofecellbfhnjaa
