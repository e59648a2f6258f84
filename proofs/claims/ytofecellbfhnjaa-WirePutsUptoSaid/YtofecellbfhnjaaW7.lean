/- Layer 17: writers: lists, what they give; the document's. -/
import Derived.Test.YtofecellbfhnjaaW6
namespace Go.Proofs.Ytofecellbfhnjaa
open Go.Dbr
set_option maxRecDepth 100000
set_option maxHeartbeats 2000000
set_option linter.unusedVariables false
set_option linter.unusedSimpArgs false

theorem ofNat_id {n : Nat} (h : n < 18446744073709551616) : (UInt64.ofNat n).toNat = n := by rw [UInt64.toNat_ofNat']; omega
def wput (n : Nat) (l b : Bs) : Bs := (l ++ beN n b.length) ++ b
def dbad (n x y k : Nat) : Bool := decide (k < x) || (decide (y < k) || decide (2 ^ (8 * n) ≤ k))
theorem db1 {n x y k : Nat} (h : k < x) : dbad n x y k = true := by rw [dbad, decide_eq_true h]; rfl
theorem db2 {n x y k : Nat} (h : y < k) : dbad n x y k = true := by rw [dbad, decide_eq_true h, Bool.true_or, Bool.or_true]
theorem db3 {n x y k : Nat} (h : 2 ^ (8 * n) ≤ k) : dbad n x y k = true := by rw [dbad, decide_eq_true h, Bool.or_true, Bool.or_true]
theorem db0 {n x y k : Nat} (h1 : ¬ k < x) (h2 : ¬ y < k) (h3 : ¬ 2 ^ (8 * n) ≤ k) : dbad n x y k = false := by rw [dbad, decide_eq_false h1, decide_eq_false h2, decide_eq_false h3]; rfl
theorem pow_bd {n : Nat} (h : n ≤ 4) : 1 * 2 ^ (8 * n) < 9223372036854775808 := by
  rw [Nat.one_mul]
  exact Nat.lt_of_le_of_lt (Nat.pow_le_pow_right (by decide) (show 8 * n ≤ 32 by omega)) (by decide)

theorem wlist_go (w : World) (bw : Nat) (a : Option Addr) (c : Nat) (l : Bs) (bad : Bool) (n : Nat) (hn : n ≤ 4) (x y : Nat) (hx : x ≤ 4294967295) (hy : y ≤ 4294967295) (ab : Option Addr) (cb : Nat) (b : Bs) (ib : InB w [.box bw [.slice a (List.length l) c, .bool bad] 115, .vec a c 1 (bys l) 5] ab cb b) (hb : List.length l + n + List.length b ≤ 200000000000000) (hH : Heap w [.box bw [.slice a (List.length l) c, .bool bad] 115, .vec a c 1 (bys l) 5]) : Calls Try.prog 101 #[pt bw, ni n, ni x, ni y, .slice ab (List.length b) cb] w fun e w' => ∃ a' c', e = .returned (.tuple #[]) ∧ Ev w [.box bw [.slice a (List.length l) c, .bool bad] 115, .vec a c 1 (bys l) 5] w' [.box bw [.slice a' (List.length (wput n l b)) c', .bool (wbad n x y (List.length b) bad)] 115, .vec a' c' 1 (bys (wput n l b)) 5] := by
 have hbs := ib.small
 refine d_0 [(0, pt bw), (1, ni n), (2, ni x), (3, ni y), (4, .slice ab (List.length b) cb)] 52 Go.Proofs.Try.func101 Go.Proofs.Try.ntmps101 (hH) fun act0 En0 Hv0 => ?_
 refine wp_seq ?_
 refine region_cut (F := fun ac wo => ∃ (bd : Bool), Env ac 52 [(0, pt bw), (1, ni n), (2, ni x), (3, ni y), (4, .slice ab (List.length b) cb)] ∧ Ev w [.box bw [.slice a (List.length l) c, .bool bad] 115, .vec a c 1 (bys l) 5] wo [.box bw [.slice a (List.length l) c, .bool bd] 115, .vec a c 1 (bys l) 5] ∧ (bd = wbad n x y (List.length b) bad)) ?_ ?_
 ·
  refine region_from ?_
  refine d_k [0,1,2,3,4,10,13] [] 4 En0 fun ac1 En2 => ?_
  refine f_o ?_
  refine m_l 0 En2 Hv0 fun ac3 En4 => ?_
  refine d_k [0,1,2,3,4,10,15] [] 6 En4 fun ac5 En6 => ?_
  rcases Bool.eq_false_or_eq_true (bad) with hb7 | hb7
  ·
   have En8 := En6.fx (t := 15) (congrArg Value.bool hb7)
   have hp9 : bad = true := hb7
   refine d_k [0,1,2,3,4,34,36] [] 27 En8 fun ac10 En11 => ?_
   refine f_o ?_
   refine m_s 0 [.box bw [.slice a (List.length l) c, .bool true] 115, .vec a c 1 (bys l) 5] En11 Hv0 fun ac12 wo13 En14 Hv15 => ?_
   refine f_e ?_
   exact ⟨rfl, ⟨true, En14.sb, Hv15.pk [0, 1], (by first | exact wb1 (by assumption) | exact wb2 (by omega) | exact wb3 (by omega) | exact wb4 (by assumption) (by omega) (by omega))⟩⟩
  ·
   have En16 := En6.fx (t := 15) (congrArg Value.bool hb7)
   have hp17 : ¬ (bad = true) := Bool.eq_false_iff.1 hb7
   refine d_k [0,1,2,3,4,10,21] [] 12 En16 fun ac18 En19 => ?_
   rcases Bool.eq_false_or_eq_true (decide (((List.length b : Nat) : Int) < ((x : Nat) : Int))) with hb20 | hb20
   ·
    have En21 := En19.fx (t := 21) (congrArg Value.bool hb20)
    have hp22 : ((List.length b : Nat) : Int) < ((x : Nat) : Int) := of_decide_eq_true hb20
    refine d_k [0,1,2,3,4,34,36] [] 27 En21 fun ac23 En24 => ?_
    refine f_o ?_
    refine m_s 0 [.box bw [.slice a (List.length l) c, .bool true] 115, .vec a c 1 (bys l) 5] En24 Hv0 fun ac25 wo26 En27 Hv28 => ?_
    refine f_e ?_
    exact ⟨rfl, ⟨true, En27.sb, Hv28.pk [0, 1], (by first | exact wb1 (by assumption) | exact wb2 (by omega) | exact wb3 (by omega) | exact wb4 (by assumption) (by omega) (by omega))⟩⟩
   ·
    have En29 := En19.fx (t := 21) (congrArg Value.bool hb20)
    have hp30 : ¬ (((List.length b : Nat) : Int) < ((x : Nat) : Int)) := of_decide_eq_false hb20
    refine d_k [0,1,2,3,4,10,27] [] 18 En29 fun ac31 En32 => ?_
    rcases Bool.eq_false_or_eq_true (decide (((List.length b : Nat) : Int) > ((y : Nat) : Int))) with hb33 | hb33
    ·
     have En34 := En32.fx (t := 27) (congrArg Value.bool hb33)
     have hp35 : ((List.length b : Nat) : Int) > ((y : Nat) : Int) := of_decide_eq_true hb33
     refine d_k [0,1,2,3,4,34,36] [] 27 En34 fun ac36 En37 => ?_
     refine f_o ?_
     refine m_s 0 [.box bw [.slice a (List.length l) c, .bool true] 115, .vec a c 1 (bys l) 5] En37 Hv0 fun ac38 wo39 En40 Hv41 => ?_
     refine f_e ?_
     exact ⟨rfl, ⟨true, En40.sb, Hv41.pk [0, 1], (by first | exact wb1 (by assumption) | exact wb2 (by omega) | exact wb3 (by omega) | exact wb4 (by assumption) (by omega) (by omega))⟩⟩
    ·
     have En42 := En32.fx (t := 27) (congrArg Value.bool hb33)
     have hp43 : ¬ (((List.length b : Nat) : Int) > ((y : Nat) : Int)) := of_decide_eq_false hb33
     refine d_k [0,1,2,3,4,10,27,29,31] [(21, g_n (w_m 8 n))] 22 En42 fun ac44 En45 => ?_
     refine f_o ?_
     refine q_v En45 (Go.Dbr.run_shr_i64 (List.length b) .i64 (8 * n) (by omega) _) fun ac46 En47 => ?_
     refine d_k [0,1,2,3,4,34,36] [] 27 En47 fun ac48 En49 => ?_
     refine f_o ?_
     refine m_s 0 [.box bw [.slice a (List.length l) c, .bool (decide ((((List.length b) / 2 ^ (8 * n) : Nat) : Int) > (0 : Int)))] 115, .vec a c 1 (bys l) 5] En49 Hv0 fun ac50 wo51 En52 Hv53 => ?_
     refine f_e ?_
     exact ⟨rfl, ⟨(decide ((((List.length b) / 2 ^ (8 * n) : Nat) : Int) > (0 : Int))), En52.sb, Hv53.pk [0, 1], (by first | exact wb1 (by assumption) | exact wb2 (by omega) | exact wb3 (by omega) | exact wb4 (by assumption) (by omega) (by omega))⟩⟩
 ·
  rintro ac54 wo55 ⟨bd, En56, Hv57, hbd⟩
  refine then_normal ?_
  refine wp_seq ?_
  refine region_from ?_
  refine d_k [0,1,2,3,4,37,38,41] [(4, g_i .u64 (Go.Dbr.nat_to_u64 (a := ((List.length b : Nat) : Int)) (n := List.length b) rfl))] 5 En56 fun ac58 En59 => ?_
  refine f_o ?_
  refine c_l [0,1] (M := [.box bw [.slice a (List.length l) c, .bool bd] 115, .vec a c 1 (bys l) 5]) En59 Hv57 (fun hM62 => wnum_go _ bw a c l bd n (by omega) (UInt64.ofNat (List.length b)) (by first | omega | (simp; omega)) hM62) ?_
  rintro _ wo63 ⟨wa60, wc61, rfl, he64⟩
  refine ⟨_, _, [.box bw [.slice wa60 (List.length (l ++ beN n (UInt64.toNat (UInt64.ofNat (List.length b))))) wc61, .bool bd] 115, .vec wa60 wc61 1 (bys (l ++ beN n (UInt64.toNat (UInt64.ofNat (List.length b))))) 5], rfl, he64, by kernel_rfl, fun ac66 En67 Hv68 => ?_⟩
  refine f_e ?_
  refine then_normal ?_
  refine region_from ?_
  refine d_k [0,1,2,3,4,43,46] [] 4 En67 fun ac69 En70 => ?_
  refine f_o ?_
  refine m_l 0 En70 Hv68 fun ac71 En72 => ?_
  refine d_k [0,1,2,3,4,43,47,48] [] 6 En72 fun ac73 En74 => ?_
  refine f_o ?_
  have hsm75 := ib.small
  refine op_append (d := some 49) (t := 23) (tx := 23) (ty := 23) (k := 1) (p := List.length (l ++ beN n (UInt64.toNat (UInt64.ofNat (List.length b))))) (m := List.length b) (x := .slice ab (List.length b) cb) (bytes := 1) En74 (by kernel_rfl) Hv68 rfl (bys_len _) (Reads.src (size := 1) (tx := 23) (e' := 5) (by kernel_rfl) (ib.ev Hv68).reads (bys_len _) ib.nz (bys_one _)) (by kernel_rfl) (z := .int .u8 0) (by kernel_rfl) rfl (by decide) (by first | omega | (simp [beN_len]; done) | (simp [beN_len]; omega)) (by unfold maxLen; first | omega | (simp [beN_len]; done) | (simp [beN_len]; omega)) ?_
  intro ac80 wo81 ao76 cp77 En82 Hv83 hnz _
  clear hnz
  rw [← bys_append] at Hv83
  have ehz78 : (List.length (l ++ beN n (UInt64.toNat (UInt64.ofNat (List.length b))))) + (List.length b) = List.length ((l ++ beN n (UInt64.toNat (UInt64.ofNat (List.length b)))) ++ b) := (by first | (simp; done) | (simp; omega) | omega)
  rw [ehz78] at En82
  refine d_k [0,1,2,3,4,49,51] [] 9 En82 fun ac84 En85 => ?_
  refine f_o ?_
  refine m_s 0 [.box bw [.slice ao76 (List.length ((l ++ beN n (UInt64.toNat (UInt64.ofNat (List.length b)))) ++ b)) cp77, .bool bd] 115, .vec ao76 cp77 1 (bys ((l ++ beN n (UInt64.toNat (UInt64.ofNat (List.length b)))) ++ b)) 5] En85 Hv83 fun ac86 wo87 En88 Hv89 => ?_
  refine f_e ?_
  refine d_end0 En88 (by kernel_rfl) ?_
  rw [ofNat_id (by omega)] at Hv89
  subst hbd
  exact ⟨ao76, cp77, rfl, Hv89.pk [0, 1]⟩

theorem wdone_t (w : World) (bw : Nat) (a : Option Addr) (c : Nat) (l : Bs) (hH : Heap w [.box bw [.slice a (List.length l) c, .bool true] 115, .vec a c 1 (bys l) 5]) : Calls Try.prog 180 #[pt bw] w fun e w' => ∃ a' c', e = .returned (.slice a' (List.length (doneL true l)) c') ∧ Ev w [.box bw [.slice a (List.length l) c, .bool true] 115, .vec a c 1 (bys l) 5] w' [.vec a' c' 1 (bys (doneL true l)) 5] := by
 refine d_0 [(0, pt bw)] 11 Go.Proofs.Try.func180 Go.Proofs.Try.ntmps180 (hH) fun act0 En0 Hv0 => ?_
 refine d_s [0,2] [] En0 fun ac1 En2 => ?_
 refine wp_seq ?_
 refine wp_seq ?_
 refine region_from ?_
 refine d_k [0,2,5] [] 3 En2 fun ac3 En4 => ?_
 refine f_o ?_
 refine m_l 0 En4 Hv0 fun ac5 En6 => ?_
 refine f_e ?_
 refine then_normal ?_
 refine c_t En6 ?_
 refine d_s [0,2] [] En6 fun ac7 En8 => ?_
 refine wp_ret ?_
 refine then_ret ?_
 refine d_ret1 (t := 2) (v := .slice none 0 0) En8 (by kernel_rfl) (by kernel_rfl) ?_
 exact ⟨none, 0, rfl, (Ev.nil (sz := 1) (T := 5) Hv0).pk [2]⟩

theorem wdone_f (w : World) (bw : Nat) (a : Option Addr) (c : Nat) (l : Bs) (hH : Heap w [.box bw [.slice a (List.length l) c, .bool false] 115, .vec a c 1 (bys l) 5]) : Calls Try.prog 180 #[pt bw] w fun e w' => ∃ a' c', e = .returned (.slice a' (List.length (doneL false l)) c') ∧ Ev w [.box bw [.slice a (List.length l) c, .bool false] 115, .vec a c 1 (bys l) 5] w' [.vec a' c' 1 (bys (doneL false l)) 5] := by
 refine d_0 [(0, pt bw)] 11 Go.Proofs.Try.func180 Go.Proofs.Try.ntmps180 (hH) fun act0 En0 Hv0 => ?_
 refine d_s [0,2] [] En0 fun ac1 En2 => ?_
 refine wp_seq ?_
 refine wp_seq ?_
 refine region_from ?_
 refine d_k [0,2,5] [] 3 En2 fun ac3 En4 => ?_
 refine f_o ?_
 refine m_l 0 En4 Hv0 fun ac5 En6 => ?_
 refine f_e ?_
 refine then_normal ?_
 refine c_f En6 ?_
 refine wp_skip ?_
 refine then_normal ?_
 refine wp_seq ?_
 refine region_from ?_
 refine d_k [0,2,9] [] 3 En6 fun ac7 En8 => ?_
 refine f_o ?_
 refine m_l 0 En8 Hv0 fun ac9 En10 => ?_
 refine d_e [0,2] [] En10 fun ac11 En12 => ?_
 refine then_normal ?_
 refine wp_ret ?_
 refine d_ret1 (t := 2) (v := .slice a (List.length l) c) En12 (by kernel_rfl) (by kernel_rfl) ?_
 exact ⟨a, c, rfl, Hv0.pk [1]⟩

theorem wdone_go (w : World) (bw : Nat) (a : Option Addr) (c : Nat) (l : Bs) (bad : Bool) (hH : Heap w [.box bw [.slice a (List.length l) c, .bool bad] 115, .vec a c 1 (bys l) 5]) : Calls Try.prog 180 #[pt bw] w fun e w' => ∃ a' c', e = .returned (.slice a' (List.length (doneL bad l)) c') ∧ Ev w [.box bw [.slice a (List.length l) c, .bool bad] 115, .vec a c 1 (bys l) 5] w' [.vec a' c' 1 (bys (doneL bad l)) 5] := by
  cases bad
  · exact wdone_f w bw a c l hH
  · exact wdone_t w bw a c l hH

theorem ddone_t (w : World) (bw : Nat) (a : Option Addr) (c : Nat) (l : Bs) (hH : Heap w [.box bw [.slice a (List.length l) c, .bool true] 126, .vec a c 1 (bys l) 5]) : Calls Try.prog 106 #[pt bw] w fun e w' => ∃ a' c', e = .returned (.slice a' (List.length (doneL true l)) c') ∧ Ev w [.box bw [.slice a (List.length l) c, .bool true] 126, .vec a c 1 (bys l) 5] w' [.vec a' c' 1 (bys (doneL true l)) 5] := by
 refine d_0 [(0, pt bw)] 11 Go.Proofs.Try.func106 Go.Proofs.Try.ntmps106 (hH) fun act0 En0 Hv0 => ?_
 refine d_s [0,2] [] En0 fun ac1 En2 => ?_
 refine wp_seq ?_
 refine wp_seq ?_
 refine region_from ?_
 refine d_k [0,2,5] [] 3 En2 fun ac3 En4 => ?_
 refine f_o ?_
 refine m_l 0 En4 Hv0 fun ac5 En6 => ?_
 refine f_e ?_
 refine then_normal ?_
 refine c_t En6 ?_
 refine d_s [0,2] [] En6 fun ac7 En8 => ?_
 refine wp_ret ?_
 refine then_ret ?_
 refine d_ret1 (t := 2) (v := .slice none 0 0) En8 (by kernel_rfl) (by kernel_rfl) ?_
 exact ⟨none, 0, rfl, (Ev.nil (sz := 1) (T := 5) Hv0).pk [2]⟩

theorem ddone_f (w : World) (bw : Nat) (a : Option Addr) (c : Nat) (l : Bs) (hH : Heap w [.box bw [.slice a (List.length l) c, .bool false] 126, .vec a c 1 (bys l) 5]) : Calls Try.prog 106 #[pt bw] w fun e w' => ∃ a' c', e = .returned (.slice a' (List.length (doneL false l)) c') ∧ Ev w [.box bw [.slice a (List.length l) c, .bool false] 126, .vec a c 1 (bys l) 5] w' [.vec a' c' 1 (bys (doneL false l)) 5] := by
 refine d_0 [(0, pt bw)] 11 Go.Proofs.Try.func106 Go.Proofs.Try.ntmps106 (hH) fun act0 En0 Hv0 => ?_
 refine d_s [0,2] [] En0 fun ac1 En2 => ?_
 refine wp_seq ?_
 refine wp_seq ?_
 refine region_from ?_
 refine d_k [0,2,5] [] 3 En2 fun ac3 En4 => ?_
 refine f_o ?_
 refine m_l 0 En4 Hv0 fun ac5 En6 => ?_
 refine f_e ?_
 refine then_normal ?_
 refine c_f En6 ?_
 refine wp_skip ?_
 refine then_normal ?_
 refine wp_seq ?_
 refine region_from ?_
 refine d_k [0,2,9] [] 3 En6 fun ac7 En8 => ?_
 refine f_o ?_
 refine m_l 0 En8 Hv0 fun ac9 En10 => ?_
 refine d_e [0,2] [] En10 fun ac11 En12 => ?_
 refine then_normal ?_
 refine wp_ret ?_
 refine d_ret1 (t := 2) (v := .slice a (List.length l) c) En12 (by kernel_rfl) (by kernel_rfl) ?_
 exact ⟨a, c, rfl, Hv0.pk [1]⟩

theorem ddone_go (w : World) (bw : Nat) (a : Option Addr) (c : Nat) (l : Bs) (bad : Bool) (hH : Heap w [.box bw [.slice a (List.length l) c, .bool bad] 126, .vec a c 1 (bys l) 5]) : Calls Try.prog 106 #[pt bw] w fun e w' => ∃ a' c', e = .returned (.slice a' (List.length (doneL bad l)) c') ∧ Ev w [.box bw [.slice a (List.length l) c, .bool bad] 126, .vec a c 1 (bys l) 5] w' [.vec a' c' 1 (bys (doneL bad l)) 5] := by
  cases bad
  · exact ddone_f w bw a c l hH
  · exact ddone_t w bw a c l hH

theorem dwnum_go (w : World) (bw : Nat) (a : Option Addr) (c : Nat) (l : Bs) (bad : Bool) (n : Nat) (hn : n ≤ 4) (v : Nat) (hv : v ≤ 9223372036854775807) (hb : List.length l + n ≤ 200000000000000) (hH : Heap w [.box bw [.slice a (List.length l) c, .bool bad] 126, .vec a c 1 (bys l) 5]) : Calls Try.prog 128 #[pt bw, ni n, ni v] w fun e w' => ∃ a' c', e = .returned (.tuple #[]) ∧ Ev w [.box bw [.slice a (List.length l) c, .bool bad] 126, .vec a c 1 (bys l) 5] w' [.box bw [.slice a' (List.length (l ++ beN n v)) c', .bool bad] 126, .vec a' c' 1 (bys (l ++ beN n v)) 5] := by
 refine d_0 [(0, pt bw), (1, ni n), (2, ni v)] 27 Go.Proofs.Try.func128 Go.Proofs.Try.ntmps128 (hH) fun act0 En0 Hv0 => ?_
 refine d_s [0,2,6] [(1, g_n (w_r (e := ((n : Nat) : Int) - (1 : Int)) (x := ((n : Nat) : Int) - 1 - ((0 : Nat) : Int)) (by omega)))] En0 fun ac1 En2 => ?_
 refine wp_block ?_
 refine loop_m (fun ms3 ac wo => ∃ (j : Nat) (wa : Option Addr) (wc : Nat) (m : Bs), ms3 = (n - j : Nat) ∧ Env ac 27 [(0, pt bw), (2, ni v), (6, .int .i64 (((n : Nat) : Int) - 1 - ((j : Nat) : Int)))] ∧ Ev w [.box bw [.slice a (List.length l) c, .bool bad] 126, .vec a c 1 (bys l) 5] wo [.box bw [.slice wa (List.length m) wc, .bool bad] 126, .vec wa wc 1 (bys m) 5] ∧ (j ≤ n) ∧ (m = l ++ List.take j (beN n v)) ∧ (List.length m = List.length l + j)) ⟨_, 0, a, c, l, rfl, En2.sb, Hv0.pk [0, 1], (by omega), (by rw [List.take_zero, List.append_nil]), rfl⟩ ?_
 rintro mm9 ac5 wo6 ⟨j, wa, wc, m, rfl, En7, Hv8, hj, hm, hml⟩
 refine wp_seq ?_
 refine d_s [0,2,6,10] [] En7 fun ac10 En11 => ?_
 refine c_d (((n : Nat) : Int) - 1 - ((j : Nat) : Int) ≥ (0 : Int)) En11 (fun hc12 => ?_) (fun hc12 => ?_)
 ·
  refine wp_skip ?_
  refine then_normal ?_
  refine wp_seq ?_
  refine wp_block ?_
  have hjn : j < n := by omega
  refine r_c (fun ac wo => ∃ (ao77 : Option Addr) (cp78 : Nat), Env ac 27 [(0, pt bw), (2, ni v), (6, .int .i64 (((n : Nat) : Int) - 1 - ((j : Nat) : Int)))] ∧ Ev w [.box bw [.slice a (List.length l) c, .bool bad] 126, .vec a c 1 (bys l) 5] wo [.box bw [.slice ao77 (List.length (m ++ [UInt8.ofNat (v / 2 ^ (8 * (n - 1 - j)))])) cp78, .bool bad] 126, .vec ao77 cp78 1 (bys (m ++ [UInt8.ofNat (v / 2 ^ (8 * (n - 1 - j)))])) 5]) ?_ ?_
  ·
   refine h_s (fun wv => Ev w [.box bw [.slice a (List.length l) c, .bool bad] 126, .vec a c 1 (bys l) 5] wv [.box bw [.slice wa (List.length m) wc, .bool bad] 126]) [14] 15 ?_
   have wo13 := Hv8.trans (Ev.drew Hv8.heap)
   refine q_s [0,1,2,3] [] 11 En11 (wo13.pk [0]) fun ac91 En92 => ?_
   refine q_l 0 4 En92 (wo13.pk [0]) fun ac93 En94 => ?_
   refine q_s [5,6,7] [(6, g_i .i64 (show ((n : Nat) : Int) - 1 - ((j : Nat) : Int) = ((n - 1 - j : Nat) : Int) from by omega)), (7, g_n (w_m 8 (n - 1 - j)))] 7 En94 (wo13.pk [0]) fun ac95 En96 => ?_
   refine q_f 8 En96 (fun _ => Go.Dbr.run_shr_i64 v .i64 (8 * (n - 1 - j)) (by omega) _) (fun _ => wo13.pk [0]) fun ac97 En98 => ?_
   refine q_s [9] [(9, g_i .u8 (Go.Dbr.nat_to_u8 (a := ((v / 2 ^ (8 * (n - 1 - j)) : Nat) : Int)) (n := v / 2 ^ (8 * (n - 1 - j))) rfl))] 5 En98 (wo13.pk [0]) fun ac99 En100 => ?_
   refine q_t 10 ?_
   refine op_lit (d := some 23) (t := 23) (T := 5) (m := 1) (parts := #[(0, .int .u8 ((UInt8.toNat (UInt8.ofNat (v / 2 ^ (8 * (n - 1 - j)))) : Nat) : Int))]) (xs := bys [UInt8.ofNat (v / 2 ^ (8 * (n - 1 - j)))]) (sz := 1) En100 (by kernel_rfl) (by kernel_rfl) rfl (by decide) wo13 ?_
   intro ac102 wo103 bk101 En104 Hv105
   refine ⟨fun _ => Hv105.pk [0], ?_⟩
   refine q_t 11 ?_
   refine op_append (d := some 24) (t := 23) (tx := 23) (ty := 23) (k := 1) (p := List.length m) (m := 1) (x := .slice (some ⟨bk101, 0, none⟩) 1 1) (bytes := 1) En104 (by kernel_rfl) Hv105 rfl (bys_len _) (Reads.src (size := 1) (tx := 23) (e' := 5) (by kernel_rfl) (Hv105.heap.reads (k := 2) rfl) rfl (fun e => by cases e) (bys_one _)) (by kernel_rfl) (z := .int .u8 0) (by kernel_rfl) rfl (by decide) (by omega) (by unfold maxLen; omega) ?_
   intro ac110 wo111 ao106 cp107 En112 Hv113 hnz _
   clear hnz
   rw [← bys_append] at Hv113
   have ehz108 : (List.length m) + 1 = List.length (m ++ [UInt8.ofNat (v / 2 ^ (8 * (n - 1 - j)))]) := (by first | (simp; done) | (simp; omega) | omega)
   rw [ehz108] at En112
   refine ⟨fun _ => Hv113.pk [0], ?_⟩
   refine q_s [12,13] [] 1 En112 (Hv113.pk [0]) fun ac114 En115 => ?_
   refine q_t 14 ?_
   refine m_s 0 [.box bw [.slice ao106 (List.length (m ++ [UInt8.ofNat (v / 2 ^ (8 * (n - 1 - j)))])) cp107, .bool bad] 126, .vec ao106 cp107 1 (bys (m ++ [UInt8.ofNat (v / 2 ^ (8 * (n - 1 - j)))])) 5, .vec (some ⟨bk101, 0, none⟩) 1 1 (bys [UInt8.ofNat (v / 2 ^ (8 * (n - 1 - j)))]) 5] En115 Hv113 fun ac116 wo117 En118 Hv119 => ?_
   refine ⟨q_y, ?_⟩
   exact h_e ⟨ao106, cp107, En118.sb, Hv119.pk [0, 1]⟩
  rintro ac120 wo121 ⟨ao77, cp78, En122, Hv123⟩
  refine block_normal ?_
  refine then_normal ?_
  refine d_r [0,2,6] [(1, g_n (w_r (e := (((n : Nat) : Int) - 1 - ((j : Nat) : Int)) - (1 : Int)) (x := ((n : Nat) : Int) - 1 - ((j + 1 : Nat) : Int)) (by omega)))] En122 fun ac124 En125 => ?_
  refine then_normal ?_
  refine ⟨_, ⟨j + 1, ao77, cp78, (m ++ [UInt8.ofNat (v / 2 ^ (8 * (n - 1 - j)))]), rfl, En125.sb, Hv123.pk [0, 1], (by omega), (wn_step hm (by omega) (by rw [p256])), (by rw [List.length_append, hml]; rfl)⟩, ?_⟩
  omega
 ·
  refine wp_exit ?_
  refine then_exit ?_
  refine then_exit ?_
  refine block_exit ?_
  refine d_end0 En11 (by kernel_rfl) ?_
  have hme := wn_all hm (by omega)
  subst hme
  exact ⟨wa, wc, rfl, Hv8.pk [0, 1]⟩

theorem dwlist_go (w : World) (bw : Nat) (a : Option Addr) (c : Nat) (l : Bs) (bad : Bool) (n : Nat) (hn : n ≤ 4) (x y : Nat) (hx : x ≤ 4294967295) (hy : y ≤ 4294967295) (ab : Option Addr) (cb : Nat) (b : Bs) (ib : InB w [.box bw [.slice a (List.length l) c, .bool bad] 126, .vec a c 1 (bys l) 5] ab cb b) (hb : List.length l + n + List.length b ≤ 200000000000000) (hH : Heap w [.box bw [.slice a (List.length l) c, .bool bad] 126, .vec a c 1 (bys l) 5]) : Calls Try.prog 105 #[pt bw, ni n, ni x, ni y, .slice ab (List.length b) cb] w fun e w' => ∃ a' c', e = .returned (.tuple #[]) ∧ Ev w [.box bw [.slice a (List.length l) c, .bool bad] 126, .vec a c 1 (bys l) 5] w' [.box bw [.slice a' (List.length (bif dbad n x y (List.length b) then l else wput n l b)) c', .bool (bad || dbad n x y (List.length b))] 126, .vec a' c' 1 (bys (bif dbad n x y (List.length b) then l else wput n l b)) 5] := by
 have hbs := ib.small
 have hpb := pow_bd hn
 rw [Nat.one_mul] at hpb
 refine d_0 [(0, pt bw), (1, ni n), (2, ni x), (3, ni y), (4, .slice ab (List.length b) cb)] 45 Go.Proofs.Try.func105 Go.Proofs.Try.ntmps105 (hH) fun act0 En0 Hv0 => ?_
 refine wp_seq ?_
 refine wp_seq ?_
 refine region_from ?_
 refine d_k [0,1,3,4,14] [] 5 En0 fun ac1 En2 => ?_
 rcases Bool.eq_false_or_eq_true (decide (((List.length b : Nat) : Int) < ((x : Nat) : Int))) with hb3 | hb3
 ·
  have En4 := En2.fx (t := 14) (congrArg Value.bool hb3)
  have hp5 : ((List.length b : Nat) : Int) < ((x : Nat) : Int) := of_decide_eq_true hb3
  refine d_e [0,1,4,27] [] En4 fun ac6 En7 => ?_
  refine then_normal ?_
  refine c_t En7 ?_
  refine wp_seq ?_
  refine region_from ?_
  refine d_k [0,1,4,30] [] 3 En7 fun ac8 En9 => ?_
  refine f_o ?_
  refine m_s 0 [.box bw [.slice a (List.length l) c, .bool true] 126, .vec a c 1 (bys l) 5] En9 Hv0 fun ac10 wo11 En12 Hv13 => ?_
  refine f_e ?_
  refine then_normal ?_
  refine wp_ret ?_
  refine then_ret ?_
  refine d_ret0 En12 (by kernel_rfl) ?_
  have eB : dbad n x y (List.length b) = true := by first | exact db1 (by omega) | exact db2 (by omega) | exact db3 (by omega)
  rw [eB, Bool.cond_true, Bool.or_true]
  exact ⟨a, c, rfl, Hv13.pk [0, 1]⟩
 ·
  have En14 := En2.fx (t := 14) (congrArg Value.bool hb3)
  have hp15 : ¬ (((List.length b : Nat) : Int) < ((x : Nat) : Int)) := of_decide_eq_false hb3
  refine d_k [0,1,4,20] [] 11 En14 fun ac16 En17 => ?_
  rcases Bool.eq_false_or_eq_true (decide (((List.length b : Nat) : Int) > ((y : Nat) : Int))) with hb18 | hb18
  ·
   have En19 := En17.fx (t := 20) (congrArg Value.bool hb18)
   have hp20 : ((List.length b : Nat) : Int) > ((y : Nat) : Int) := of_decide_eq_true hb18
   refine d_e [0,1,4,27] [] En19 fun ac21 En22 => ?_
   refine then_normal ?_
   refine c_t En22 ?_
   refine wp_seq ?_
   refine region_from ?_
   refine d_k [0,1,4,30] [] 3 En22 fun ac23 En24 => ?_
   refine f_o ?_
   refine m_s 0 [.box bw [.slice a (List.length l) c, .bool true] 126, .vec a c 1 (bys l) 5] En24 Hv0 fun ac25 wo26 En27 Hv28 => ?_
   refine f_e ?_
   refine then_normal ?_
   refine wp_ret ?_
   refine then_ret ?_
   refine d_ret0 En27 (by kernel_rfl) ?_
   have eB : dbad n x y (List.length b) = true := by first | exact db1 (by omega) | exact db2 (by omega) | exact db3 (by omega)
   rw [eB, Bool.cond_true, Bool.or_true]
   exact ⟨a, c, rfl, Hv28.pk [0, 1]⟩
  ·
   have En29 := En17.fx (t := 20) (congrArg Value.bool hb18)
   have hp30 : ¬ (((List.length b : Nat) : Int) > ((y : Nat) : Int)) := of_decide_eq_false hb18
   refine d_k [0,1,4,20,22,24] [(14, g_n (w_m 8 n))] 15 En29 fun ac31 En32 => ?_
   refine f_o ?_
   refine q_v En32 (Go.Dbr.run_shl_i64 1 .i64 (8 * n) (by omega) (by exact pow_bd hn) _) fun ac33 En34 => ?_
   refine d_e [0,1,4,27] [] En34 fun ac35 En36 => ?_
   refine then_normal ?_
   refine c_d (((List.length b : Nat) : Int) ≥ ((1 * 2 ^ (8 * n) : Nat) : Int)) En36 (fun hc37 => ?_) (fun hc37 => ?_)
   ·
    refine wp_seq ?_
    refine region_from ?_
    refine d_k [0,1,4,30] [] 3 En36 fun ac38 En39 => ?_
    refine f_o ?_
    refine m_s 0 [.box bw [.slice a (List.length l) c, .bool true] 126, .vec a c 1 (bys l) 5] En39 Hv0 fun ac40 wo41 En42 Hv43 => ?_
    refine f_e ?_
    refine then_normal ?_
    refine wp_ret ?_
    refine then_ret ?_
    refine d_ret0 En42 (by kernel_rfl) ?_
    have eB : dbad n x y (List.length b) = true := by first | exact db1 (by omega) | exact db2 (by omega) | exact db3 (by omega)
    rw [eB, Bool.cond_true, Bool.or_true]
    exact ⟨a, c, rfl, Hv43.pk [0, 1]⟩
   ·
    refine wp_skip ?_
    refine then_normal ?_
    refine wp_seq ?_
    refine region_from ?_
    refine d_k [0,1,4,31,32,34] [] 4 En36 fun ac44 En45 => ?_
    refine f_o ?_
    refine c_l [0,1] (M := [.box bw [.slice a (List.length l) c, .bool bad] 126, .vec a c 1 (bys l) 5]) En45 Hv0 (fun hM48 => dwnum_go _ bw a c l bad n (by omega) (List.length b) (by omega) (by first | omega | (simp; omega)) hM48) ?_
    rintro _ wo49 ⟨wa46, wc47, rfl, he50⟩
    refine ⟨_, _, [.box bw [.slice wa46 (List.length (l ++ beN n (List.length b))) wc47, .bool bad] 126, .vec wa46 wc47 1 (bys (l ++ beN n (List.length b))) 5], rfl, he50, by kernel_rfl, fun ac52 En53 Hv54 => ?_⟩
    refine f_e ?_
    refine then_normal ?_
    refine region_from ?_
    refine d_k [0,1,4,36,39] [] 4 En53 fun ac55 En56 => ?_
    refine f_o ?_
    refine m_l 0 En56 Hv54 fun ac57 En58 => ?_
    refine d_k [0,1,4,36,40,41] [] 6 En58 fun ac59 En60 => ?_
    refine f_o ?_
    have hsm61 := ib.small
    refine op_append (d := some 42) (t := 23) (tx := 23) (ty := 23) (k := 1) (p := List.length (l ++ beN n (List.length b))) (m := List.length b) (x := .slice ab (List.length b) cb) (bytes := 1) En60 (by kernel_rfl) Hv54 rfl (bys_len _) (Reads.src (size := 1) (tx := 23) (e' := 5) (by kernel_rfl) (ib.ev Hv54).reads (bys_len _) ib.nz (bys_one _)) (by kernel_rfl) (z := .int .u8 0) (by kernel_rfl) rfl (by decide) (by first | omega | (simp [beN_len]; done) | (simp [beN_len]; omega)) (by unfold maxLen; first | omega | (simp [beN_len]; done) | (simp [beN_len]; omega)) ?_
    intro ac66 wo67 ao62 cp63 En68 Hv69 hnz _
    clear hnz
    rw [← bys_append] at Hv69
    have ehz64 : (List.length (l ++ beN n (List.length b))) + (List.length b) = List.length ((l ++ beN n (List.length b)) ++ b) := (by first | (simp; done) | (simp; omega) | omega)
    rw [ehz64] at En68
    refine d_k [0,1,4,42,44] [] 9 En68 fun ac70 En71 => ?_
    refine f_o ?_
    refine m_s 0 [.box bw [.slice ao62 (List.length ((l ++ beN n (List.length b)) ++ b)) cp63, .bool bad] 126, .vec ao62 cp63 1 (bys ((l ++ beN n (List.length b)) ++ b)) 5] En71 Hv69 fun ac72 wo73 En74 Hv75 => ?_
    refine f_e ?_
    refine d_end0 En74 (by kernel_rfl) ?_
    have eB : dbad n x y (List.length b) = false := db0 (by omega) (by omega) (by omega)
    rw [eB, Bool.cond_false, Bool.or_false]
    exact ⟨ao62, cp63, rfl, Hv75.pk [0, 1]⟩

def dput (n x y : Nat) (l b : Bs) : Bs := bif dbad n x y (List.length b) then l else wput n l b

end Go.Proofs.Ytofecellbfhnjaa
