/- Layer 3: texts between quotes, as the document writes them. -/
import Derived.Test.YtfcfgbejpcmmkaaDoorA3
import Derived.Test.YtfcfgbejpcmmkaaDoorToArr
namespace Go.Proofs.YtfcfgbejpcmmkaaDoor
open Go.Dbr
set_option maxRecDepth 100000
set_option maxHeartbeats 2000000
set_option linter.unusedVariables false
set_option linter.unusedSimpArgs false

theorem q_end2 {m s : Bs} {i : Nat} (h : m = [] ++ 34 :: (s.take i).flatMap escB) (hi : i = s.length) : m ++ [34] = quoL s := by
  subst hi
  rw [h, quoL, List.take_length]; simp

theorem quoted_go (w : World) (s : Bs) (hs : List.length s ≤ 1048576) : Calls Tryd.prog 32 #[.string (bstr s)] w fun e w' => e = .returned (.string (bstr (quoL s))) ∧ Ev w [] w' [] := by
 refine d_0 [(0, .string (bstr s))] 47 Go.Proofs.Tryd.func32 Go.Proofs.Tryd.ntmps32 (Heap.nil _) fun act0 En0 Hv0 => ?_
 refine wp_seq ?_
 refine d_r [0,2] [] En0 fun ac1 En2 => ?_
 refine then_normal ?_
 refine wp_seq ?_
 refine region_from ?_
 refine f_o ?_
 refine op_lit (d := some 6) (t := 59) (T := 5) (m := 1) (parts := #[(0, .int .u8 34)]) (xs := bys [(34 : UInt8)]) (sz := 1) En2 (by kernel_rfl) (by kernel_rfl) rfl (by decide) Hv0 ?_
 intro ac4 wo5 bk3 En6 Hv7
 refine d_e [0,2,3] [] En6 fun ac8 En9 => ?_
 refine then_normal ?_
 refine wp_seq ?_
 refine wp_seq ?_
 have hz := bstr_size s
 refine d_r [0,2,3,4] [] En9 fun ac10 En11 => ?_
 refine then_normal ?_
 refine wp_block ?_
 refine loop_m (fun ms12 ac wo => ∃ (i : Nat) (a2 : Option Addr) (c2 : Nat) (m : Bs), ms12 = (List.length s - i : Nat) ∧ Env ac 47 [(0, .string (bstr s)), (2, .string (bstr [])), (3, .slice a2 (List.length m) c2), (4, ni i)] ∧ Ev w [] wo [.vec a2 c2 1 (bys m) 5] ∧ (i ≤ List.length s) ∧ (m = [] ++ 34 :: List.flatMap escB (List.take i s)) ∧ (List.length m ≤ 1 + 4 * i)) ⟨_, 0, (some ⟨bk3, 0, none⟩), 1, [(34 : UInt8)], rfl, En11.sub (by kernel_rfl), Hv7.pick [0] (by kernel_rfl) (by decide), (Nat.zero_le _), (by simp), (by simp)⟩ ?_
 rintro mm18 ac14 wo15 ⟨i, a2, c2, m, rfl, En16, Hv17, hi, hm, hml⟩
 refine wp_seq ?_
 refine wp_seq ?_
 refine d_r [0,2,3,4,10] [] En16 fun ac19 En20 => ?_
 refine then_normal ?_
 refine c_d (((i : Nat) : Int) < ((ByteArray.size (bstr s) : Nat) : Int)) En20 (fun hc21 => ?_) (fun hc21 => ?_)
 ·
  refine wp_skip ?_
  refine then_normal ?_
  refine wp_seq ?_
  refine wp_block ?_
  refine wp_seq ?_
  have hb22 : i < List.length s := by first | omega | exact hex_hi _ | exact hex_lo _
  refine region_from ?_
  refine d_k [0,2,3,4,13,14] [] 2 En20 fun ac23 En24 => ?_
  refine f_o ?_
  refine q_v (x := Instr.index 9 (.string (bstr s)) (ni i)) (v := .int .u8 ((UInt8.toNat (List.getD s i 0) : Nat) : Int)) En24 (Go.Dbr.run_indexstr (s := s) (j := i) (by kernel_rfl) (by omega) hb22 _) fun ac25 En26 => ?_
  refine d_e [0,2,3,4,5] [] En26 fun ac27 En28 => ?_
  refine then_normal ?_
  refine wp_block ?_
  refine wp_seq ?_
  refine region_from ?_
  refine d_k [0,2,3,4,5,26] [] 1 En28 fun ac29 En30 => ?_
  refine f_o ?_
  refine c_p En30 Hv17 (dplain_go _ (List.getD s i 0)) fun ac35 wo32 En36 Hv37 => ?_
  refine d_e [0,2,3,4,5,25] [] En36 fun ac38 En39 => ?_
  refine then_normal ?_
  refine cond_at En39 (t := plB (List.getD s i 0)) (by kernel_rfl) (fun hc40 => ?_) (fun hc40 => ?_)
  ·
   replace hc40 : plB (List.getD s i 0) = true := hc40
   refine region_from ?_
   refine d_k [0,2,3,4,5,28,29] [] 2 En39 fun ac41 En42 => ?_
   refine f_o ?_
   refine op_lit (d := some 30) (t := 59) (T := 5) (m := 1) (parts := #[(0, .int .u8 ((UInt8.toNat (List.getD s i 0) : Nat) : Int))]) (xs := bys [List.getD s i 0]) (sz := 1) En42 (by kernel_rfl) (by kernel_rfl) rfl (by decide) Hv37 ?_
   intro ac44 wo45 bk43 En46 Hv47
   refine f_o ?_
   refine op_append (d := some 31) (t := 59) (tx := 59) (ty := 59) (k := 0) (p := List.length m) (m := 1) (x := .slice (some ⟨bk43, 0, none⟩) 1 1) (bytes := 1) En46 (by kernel_rfl) Hv47 rfl (bys_len _) (Reads.src (size := 1) (tx := 59) (e' := 5) (by kernel_rfl) (Hv47.heap.reads (k := 1) rfl) rfl (fun e => by cases e) (bys_one _)) (by kernel_rfl) (z := .int .u8 0) (by kernel_rfl) rfl (by decide) (by omega) (by unfold maxLen; omega) ?_
   intro ac52 wo53 ao48 cp49 En54 Hv55 hnz _
   clear hnz
   rw [← bys_append] at Hv55
   have ehz50 : (List.length m) + 1 = List.length (m ++ [List.getD s i 0]) := (by first | (simp; done) | (simp; omega) | omega)
   rw [ehz50] at En54
   refine d_e [0,2,3,4,5] [] En54 fun ac56 En57 => ?_
   refine block_normal ?_
   refine block_normal ?_
   refine then_normal ?_
   refine d_r [0,2,3,4,5] [(1, g_n (w_a i 1))] En57 fun ac58 En59 => ?_
   refine then_normal ?_
   refine ⟨_, ⟨i + 1, ao48, cp49, (m ++ [List.getD s i 0]), rfl, En59.sub (by kernel_rfl), Hv55.pick [0] (by kernel_rfl) (by decide), (by omega), (by first | exact q_p hm (by omega) (by assumption) | exact q_q2 hm (by omega) (u8_34 (by assumption)) | exact q_q2 hm (by omega) (u8_92 (by assumption)) | (rw [hex_s]; exact q_h hm (by omega) (by assumption) (u8_n (by assumption) (by assumption)))), (by simp only [List.length_append, List.length_cons, List.length_nil]; omega)⟩, ?_⟩
   omega
  ·
   replace hc40 : ¬ (plB (List.getD s i 0) = true) := Bool.eq_false_iff.1 hc40
   refine wp_seq ?_
   refine region_from ?_
   refine d_k [0,2,3,4,5,35] [] 3 En39 fun ac60 En61 => ?_
   rcases Bool.eq_false_or_eq_true (((UInt8.toNat (List.getD s i 0) : Nat) : Int) == (34 : Int)) with hb62 | hb62
   ·
    have En63 := En61.fx (t := 35) (congrArg Value.bool hb62)
    have hp64 : ((UInt8.toNat (List.getD s i 0) : Nat) : Int) = (34 : Int) := eq_of_beq hb62
    refine d_e [0,2,3,4,5,32] [] En63 fun ac65 En66 => ?_
    refine then_normal ?_
    refine c_t En66 ?_
    refine region_from ?_
    refine d_k [0,2,3,4,5,39,40] [] 2 En66 fun ac67 En68 => ?_
    refine f_o ?_
    refine op_lit (d := some 41) (t := 59) (T := 5) (m := 2) (parts := #[(0, .int .u8 92), (1, .int .u8 ((UInt8.toNat (List.getD s i 0) : Nat) : Int))]) (xs := bys [(92 : UInt8), List.getD s i 0]) (sz := 1) En68 (by kernel_rfl) (by kernel_rfl) rfl (by decide) Hv37 ?_
    intro ac70 wo71 bk69 En72 Hv73
    refine f_o ?_
    refine op_append (d := some 42) (t := 59) (tx := 59) (ty := 59) (k := 0) (p := List.length m) (m := 2) (x := .slice (some ⟨bk69, 0, none⟩) 2 2) (bytes := 1) En72 (by kernel_rfl) Hv73 rfl (bys_len _) (Reads.src (size := 1) (tx := 59) (e' := 5) (by kernel_rfl) (Hv73.heap.reads (k := 1) rfl) rfl (fun e => by cases e) (bys_one _)) (by kernel_rfl) (z := .int .u8 0) (by kernel_rfl) rfl (by decide) (by omega) (by unfold maxLen; omega) ?_
    intro ac78 wo79 ao74 cp75 En80 Hv81 hnz _
    clear hnz
    rw [← bys_append] at Hv81
    have ehz76 : (List.length m) + 2 = List.length (m ++ [(92 : UInt8), List.getD s i 0]) := (by first | (simp; done) | (simp; omega) | omega)
    rw [ehz76] at En80
    refine d_e [0,2,3,4,5] [] En80 fun ac82 En83 => ?_
    refine block_normal ?_
    refine block_normal ?_
    refine then_normal ?_
    refine d_r [0,2,3,4,5] [(1, g_n (w_a i 1))] En83 fun ac84 En85 => ?_
    refine then_normal ?_
    refine ⟨_, ⟨i + 1, ao74, cp75, (m ++ [(92 : UInt8), List.getD s i 0]), rfl, En85.sub (by kernel_rfl), Hv81.pick [0] (by kernel_rfl) (by decide), (by omega), (by first | exact q_p hm (by omega) (by assumption) | exact q_q2 hm (by omega) (u8_34 (by assumption)) | exact q_q2 hm (by omega) (u8_92 (by assumption)) | (rw [hex_s]; exact q_h hm (by omega) (by assumption) (u8_n (by assumption) (by assumption)))), (by simp only [List.length_append, List.length_cons, List.length_nil]; omega)⟩, ?_⟩
    omega
   ·
    have En86 := En61.fx (t := 35) (congrArg Value.bool hb62)
    have hp87 : ¬ (((UInt8.toNat (List.getD s i 0) : Nat) : Int) = (34 : Int)) := ne_of_beq_false hb62
    refine d_e [0,2,3,4,5,32] [] En86 fun ac88 En89 => ?_
    refine then_normal ?_
    refine c_e ((UInt8.toNat (List.getD s i 0) : Nat) : Int) (92 : Int) En89 (fun hc90 => ?_) (fun hc90 => ?_)
    ·
     refine region_from ?_
     refine d_k [0,2,3,4,5,39,40] [] 2 En89 fun ac91 En92 => ?_
     refine f_o ?_
     refine op_lit (d := some 41) (t := 59) (T := 5) (m := 2) (parts := #[(0, .int .u8 92), (1, .int .u8 ((UInt8.toNat (List.getD s i 0) : Nat) : Int))]) (xs := bys [(92 : UInt8), List.getD s i 0]) (sz := 1) En92 (by kernel_rfl) (by kernel_rfl) rfl (by decide) Hv37 ?_
     intro ac94 wo95 bk93 En96 Hv97
     refine f_o ?_
     refine op_append (d := some 42) (t := 59) (tx := 59) (ty := 59) (k := 0) (p := List.length m) (m := 2) (x := .slice (some ⟨bk93, 0, none⟩) 2 2) (bytes := 1) En96 (by kernel_rfl) Hv97 rfl (bys_len _) (Reads.src (size := 1) (tx := 59) (e' := 5) (by kernel_rfl) (Hv97.heap.reads (k := 1) rfl) rfl (fun e => by cases e) (bys_one _)) (by kernel_rfl) (z := .int .u8 0) (by kernel_rfl) rfl (by decide) (by omega) (by unfold maxLen; omega) ?_
     intro ac102 wo103 ao98 cp99 En104 Hv105 hnz _
     clear hnz
     rw [← bys_append] at Hv105
     have ehz100 : (List.length m) + 2 = List.length (m ++ [(92 : UInt8), List.getD s i 0]) := (by first | (simp; done) | (simp; omega) | omega)
     rw [ehz100] at En104
     refine d_e [0,2,3,4,5] [] En104 fun ac106 En107 => ?_
     refine block_normal ?_
     refine block_normal ?_
     refine then_normal ?_
     refine d_r [0,2,3,4,5] [(1, g_n (w_a i 1))] En107 fun ac108 En109 => ?_
     refine then_normal ?_
     refine ⟨_, ⟨i + 1, ao98, cp99, (m ++ [(92 : UInt8), List.getD s i 0]), rfl, En109.sub (by kernel_rfl), Hv105.pick [0] (by kernel_rfl) (by decide), (by omega), (by first | exact q_p hm (by omega) (by assumption) | exact q_q2 hm (by omega) (u8_34 (by assumption)) | exact q_q2 hm (by omega) (u8_92 (by assumption)) | (rw [hex_s]; exact q_h hm (by omega) (by assumption) (u8_n (by assumption) (by assumption)))), (by simp only [List.length_append, List.length_cons, List.length_nil]; omega)⟩, ?_⟩
     omega
    ·
     refine r_c (fun ac wo => ∃ (ao126 : Option Addr) (cp127 : Nat), Env ac 47 [(0, .string (bstr s)), (2, .string (bstr [])), (3, .slice ao126 (List.length (m ++ [(92 : UInt8), (120 : UInt8), List.getD [48, 49, 50, 51, 52, 53, 54, 55, 56, 57, 97, 98, 99, 100, 101, 102] (UInt8.toNat ((List.getD s i 0) >>> UInt8.ofNat 4)) 0, List.getD [48, 49, 50, 51, 52, 53, 54, 55, 56, 57, 97, 98, 99, 100, 101, 102] (UInt8.toNat ((List.getD s i 0) &&& (15 : UInt8))) 0])) cp127), (4, ni i), (5, .int .u8 ((UInt8.toNat (List.getD s i 0) : Nat) : Int))] ∧ Ev w [] wo [.vec ao126 cp127 1 (bys (m ++ [(92 : UInt8), (120 : UInt8), List.getD [48, 49, 50, 51, 52, 53, 54, 55, 56, 57, 97, 98, 99, 100, 101, 102] (UInt8.toNat ((List.getD s i 0) >>> UInt8.ofNat 4)) 0, List.getD [48, 49, 50, 51, 52, 53, 54, 55, 56, 57, 97, 98, 99, 100, 101, 102] (UInt8.toNat ((List.getD s i 0) &&& (15 : UInt8))) 0])) 5]) ?_ ?_
     ·
      refine draw_any (by kernel_rfl) 10 (by kernel_rfl) ?_
      have wo110 := Hv37.trans (Ev.drew Hv37.heap)
      have hb136 : UInt8.toNat ((List.getD s i 0) >>> UInt8.ofNat 4) < List.length [48, 49, 50, 51, 52, 53, 54, 55, 56, 57, 97, 98, 99, 100, 101, 102] := by first | omega | exact hex_hi _ | exact hex_lo _
      refine q_a [0,1,2] [(2, g_i .u8 (Go.Dbr.u8_shr (x := List.getD s i 0) (n := 4) rfl (by decide)))] 7 En89 fun ac137 En138 => ?_
      refine q_g 3 (s := Instr.index 9 (.string (bstr [48, 49, 50, 51, 52, 53, 54, 55, 56, 57, 97, 98, 99, 100, 101, 102])) (.int .u8 ((UInt8.toNat ((List.getD s i 0) >>> UInt8.ofNat 4) : Nat) : Int))) (v := .int .u8 ((UInt8.toNat (List.getD [48, 49, 50, 51, 52, 53, 54, 55, 56, 57, 97, 98, 99, 100, 101, 102] (UInt8.toNat ((List.getD s i 0) >>> UInt8.ofNat 4)) 0) : Nat) : Int)) En138 (fun _ => Go.Dbr.run_indexstr (s := [48, 49, 50, 51, 52, 53, 54, 55, 56, 57, 97, 98, 99, 100, 101, 102]) (j := (UInt8.toNat ((List.getD s i 0) >>> UInt8.ofNat 4))) (by kernel_rfl) (by omega) hb136 _) fun ac139 En140 => ?_
      have hb141 : UInt8.toNat ((List.getD s i 0) &&& (15 : UInt8)) < List.length [48, 49, 50, 51, 52, 53, 54, 55, 56, 57, 97, 98, 99, 100, 101, 102] := by first | omega | exact hex_hi _ | exact hex_lo _
      refine q_a [4,5] [(5, g_i .u8 (Go.Dbr.u8_and (x := List.getD s i 0) (y := (15 : UInt8)) rfl rfl))] 4 En140 fun ac142 En143 => ?_
      refine q_g 6 (s := Instr.index 9 (.string (bstr [48, 49, 50, 51, 52, 53, 54, 55, 56, 57, 97, 98, 99, 100, 101, 102])) (.int .u8 ((UInt8.toNat ((List.getD s i 0) &&& (15 : UInt8)) : Nat) : Int))) (v := .int .u8 ((UInt8.toNat (List.getD [48, 49, 50, 51, 52, 53, 54, 55, 56, 57, 97, 98, 99, 100, 101, 102] (UInt8.toNat ((List.getD s i 0) &&& (15 : UInt8))) 0) : Nat) : Int)) En143 (fun _ => Go.Dbr.run_indexstr (s := [48, 49, 50, 51, 52, 53, 54, 55, 56, 57, 97, 98, 99, 100, 101, 102]) (j := (UInt8.toNat ((List.getD s i 0) &&& (15 : UInt8)))) (by kernel_rfl) (by omega) hb141 _) fun ac144 En145 => ?_
      refine q_u 7 ?_
      refine op_lit (d := some 23) (t := 59) (T := 5) (m := 4) (parts := #[(0, .int .u8 92), (1, .int .u8 120), (2, .int .u8 ((UInt8.toNat (List.getD [48, 49, 50, 51, 52, 53, 54, 55, 56, 57, 97, 98, 99, 100, 101, 102] (UInt8.toNat ((List.getD s i 0) >>> UInt8.ofNat 4)) 0) : Nat) : Int)), (3, .int .u8 ((UInt8.toNat (List.getD [48, 49, 50, 51, 52, 53, 54, 55, 56, 57, 97, 98, 99, 100, 101, 102] (UInt8.toNat ((List.getD s i 0) &&& (15 : UInt8))) 0) : Nat) : Int))]) (xs := bys [(92 : UInt8), (120 : UInt8), List.getD [48, 49, 50, 51, 52, 53, 54, 55, 56, 57, 97, 98, 99, 100, 101, 102] (UInt8.toNat ((List.getD s i 0) >>> UInt8.ofNat 4)) 0, List.getD [48, 49, 50, 51, 52, 53, 54, 55, 56, 57, 97, 98, 99, 100, 101, 102] (UInt8.toNat ((List.getD s i 0) &&& (15 : UInt8))) 0]) (sz := 1) En145 (by kernel_rfl) (by kernel_rfl) rfl (by decide) wo110 ?_
      intro ac147 wo148 bk146 En149 Hv150
      refine q_u 8 ?_
      refine op_append (d := some 24) (t := 59) (tx := 59) (ty := 59) (k := 0) (p := List.length m) (m := 4) (x := .slice (some ⟨bk146, 0, none⟩) 4 4) (bytes := 1) En149 (by kernel_rfl) Hv150 rfl (bys_len _) (Reads.src (size := 1) (tx := 59) (e' := 5) (by kernel_rfl) (Hv150.heap.reads (k := 1) rfl) rfl (fun e => by cases e) (bys_one _)) (by kernel_rfl) (z := .int .u8 0) (by kernel_rfl) rfl (by decide) (by omega) (by unfold maxLen; omega) ?_
      intro ac155 wo156 ao151 cp152 En157 Hv158 hnz _
      clear hnz
      rw [← bys_append] at Hv158
      have ehz153 : (List.length m) + 4 = List.length (m ++ [(92 : UInt8), (120 : UInt8), List.getD [48, 49, 50, 51, 52, 53, 54, 55, 56, 57, 97, 98, 99, 100, 101, 102] (UInt8.toNat ((List.getD s i 0) >>> UInt8.ofNat 4)) 0, List.getD [48, 49, 50, 51, 52, 53, 54, 55, 56, 57, 97, 98, 99, 100, 101, 102] (UInt8.toNat ((List.getD s i 0) &&& (15 : UInt8))) 0]) := (by first | (simp; done) | (simp; omega) | omega)
      rw [ehz153] at En157
      refine q_a [9] [] 0 En157 fun ac159 En160 => ?_
      exact a_e ⟨ao151, cp152, En160.sub (by kernel_rfl), Hv158.pick [0] (by kernel_rfl) (by decide)⟩
     rintro ac161 wo162 ⟨ao126, cp127, En163, Hv164⟩
     refine block_normal ?_
     refine block_normal ?_
     refine then_normal ?_
     refine d_r [0,2,3,4,5] [(1, g_n (w_a i 1))] En163 fun ac165 En166 => ?_
     refine then_normal ?_
     refine ⟨_, ⟨i + 1, ao126, cp127, (m ++ [(92 : UInt8), (120 : UInt8), List.getD [48, 49, 50, 51, 52, 53, 54, 55, 56, 57, 97, 98, 99, 100, 101, 102] (UInt8.toNat ((List.getD s i 0) >>> UInt8.ofNat 4)) 0, List.getD [48, 49, 50, 51, 52, 53, 54, 55, 56, 57, 97, 98, 99, 100, 101, 102] (UInt8.toNat ((List.getD s i 0) &&& (15 : UInt8))) 0]), rfl, En166.sub (by kernel_rfl), Hv164.pick [0] (by kernel_rfl) (by decide), (by omega), (by first | exact q_p hm (by omega) (by assumption) | exact q_q2 hm (by omega) (u8_34 (by assumption)) | exact q_q2 hm (by omega) (u8_92 (by assumption)) | (rw [hex_s]; exact q_h hm (by omega) (by assumption) (u8_n (by assumption) (by assumption)))), (by simp only [List.length_append, List.length_cons, List.length_nil]; omega)⟩, ?_⟩
     omega
 ·
  refine wp_exit ?_
  refine then_exit ?_
  refine then_exit ?_
  refine block_exit ?_
  refine then_normal ?_
  refine wp_seq ?_
  refine region_from ?_
  refine d_k [0,2,3,4,43] [] 1 En20 fun ac167 En168 => ?_
  refine f_o ?_
  refine op_lit (d := some 44) (t := 59) (T := 5) (m := 1) (parts := #[(0, .int .u8 34)]) (xs := bys [(34 : UInt8)]) (sz := 1) En168 (by kernel_rfl) (by kernel_rfl) rfl (by decide) Hv17 ?_
  intro ac170 wo171 bk169 En172 Hv173
  refine f_o ?_
  refine op_append (d := some 45) (t := 59) (tx := 59) (ty := 59) (k := 0) (p := List.length m) (m := 1) (x := .slice (some ⟨bk169, 0, none⟩) 1 1) (bytes := 1) En172 (by kernel_rfl) Hv173 rfl (bys_len _) (Reads.src (size := 1) (tx := 59) (e' := 5) (by kernel_rfl) (Hv173.heap.reads (k := 1) rfl) rfl (fun e => by cases e) (bys_one _)) (by kernel_rfl) (z := .int .u8 0) (by kernel_rfl) rfl (by decide) (by omega) (by unfold maxLen; omega) ?_
  intro ac178 wo179 ao174 cp175 En180 Hv181 hnz _
  clear hnz
  rw [← bys_append] at Hv181
  have ehz176 : (List.length m) + 1 = List.length (m ++ [(34 : UInt8)]) := (by first | (simp; done) | (simp; omega) | omega)
  rw [ehz176] at En180
  refine f_o ?_
  refine op_str (d := some 46) (src := 59) (dst := 9) (e := 5) (ao := ao174) (cap := cp175) (p := List.length (m ++ [(34 : UInt8)])) (bs := m ++ [(34 : UInt8)]) En180 (by kernel_rfl) rfl (by kernel_rfl) (by kernel_rfl) (by kernel_rfl) (Hv181.heap.reads (k := 0) rfl) (bys_vnz Hv181.heap (k := 0) rfl) ?_
  intro ac182 En183
  refine d_e [0,2,3,4] [] En183 fun ac184 En185 => ?_
  refine then_normal ?_
  refine wp_ret ?_
  refine d_ret1 (t := 2) (v := .string (bstr (m ++ [(34 : UInt8)]))) En185 (by kernel_rfl) (by kernel_rfl) ?_
  refine ⟨congrArg (fun z => Ending.returned (Value.string (bstr z))) ?_, Hv181.pick [] (by kernel_rfl) (by decide)⟩
  exact (q_end2 hm (by omega))

end Go.Proofs.YtfcfgbejpcmmkaaDoor
