import Derived.Test.YtfcfgbejpcmmkaaDoorBk5
import Derived.Test.YtfcfgbejpcmmkaaDoorBk3
/- Layer 3: the reader of lines: numbers. -/

namespace Go.Proofs.YtfcfgbejpcmmkaaDoor
open Go.Dbr
set_option maxRecDepth 100000
set_option maxHeartbeats 2000000
set_option linter.unusedVariables false
set_option linter.unusedSimpArgs false

theorem num_n (r : Bs) : (((ByteArray.size (bstr r) : Nat) : Int) - ((ByteArray.size (bstr (List.dropWhile dgB r)) : Nat) : Int)) = ((nDg r : Nat) : Int) := by
  have h1 := trim_len r
  have h2 := trim_le r
  rw [bstr_size, bstr_size]
  omega
theorem min_20 (n : Nat) : (if (20 : Int) < ((n : Nat) : Int) then (20 : Int) else ((n : Nat) : Int)) = ((min n 20 : Nat) : Int) := by split <;> omega
theorem sub_1 {k j : Nat} (h : 1 ≤ j) : (((k + j : Nat) : Int) - (1 : Int)) = ((k + j - 1 : Nat) : Int) := by omega

theorem number_t (w : World) (rb : Nat) (s : Bs) (k : Nat) (hs : List.length s ≤ 1024) (hk : k ≤ List.length s) (ge : InE w [.box rb [.string (bstr s), ni k, .bool true] 73]) (hH : Heap w [.box rb [.string (bstr s), ni k, .bool true] 73]) : Calls Tryd.prog 27 #[pt rb] w fun e w' => ∃ p, e = .returned (uv64 (numV true (List.drop k s))) ∧ Ev w [.box rb [.string (bstr s), ni k, .bool true] 73] w' [.box rb [.string (bstr s), ni p, .bool (nmB true (List.drop k s))] 73] ∧ p ≤ List.length s ∧ (nmB true (List.drop k s) = false → p = k + nDg (List.drop k s)) := by
 refine d_0 [(0, pt rb)] 95 Go.Proofs.Tryd.func27 Go.Proofs.Tryd.ntmps27 (hH) fun act0 En0 Hv0 => ?_
 refine d_s [0,2] [] En0 fun ac1 En2 => ?_
 refine wp_seq ?_
 refine wp_seq ?_
 refine region_from ?_
 refine d_k [0,2,12] [] 3 En2 fun ac3 En4 => ?_
 refine f_o ?_
 refine m_l 0 En4 Hv0 fun ac5 En6 => ?_
 refine f_e ?_
 refine then_normal ?_
 refine c_t En6 ?_
 refine d_s [0,2] [] En6 fun ac7 En8 => ?_
 refine wp_ret ?_
 refine then_ret ?_
 refine d_ret1 (t := 2) (v := .int .u64 0) En8 (by kernel_rfl) (by kernel_rfl) ?_
 exact ⟨k, rfl, Hv0.pick [0] (by kernel_rfl) (by decide), hk, (fun h => by cases h)⟩

theorem number_f (w : World) (rb : Nat) (s : Bs) (k : Nat) (hs : List.length s ≤ 1024) (hk : k ≤ List.length s) (ge : InE w [.box rb [.string (bstr s), ni k, .bool false] 73]) (hH : Heap w [.box rb [.string (bstr s), ni k, .bool false] 73]) : Calls Tryd.prog 27 #[pt rb] w fun e w' => ∃ p, e = .returned (uv64 (numV false (List.drop k s))) ∧ Ev w [.box rb [.string (bstr s), ni k, .bool false] 73] w' [.box rb [.string (bstr s), ni p, .bool (nmB false (List.drop k s))] 73] ∧ p ≤ List.length s ∧ (nmB false (List.drop k s) = false → p = k + nDg (List.drop k s)) := by
 refine d_0 [(0, pt rb)] 95 Go.Proofs.Tryd.func27 Go.Proofs.Tryd.ntmps27 (hH) fun act0 En0 Hv0 => ?_
 refine wp_seq ?_
 refine d_r [0,2] [] En0 fun ac1 En2 => ?_
 refine then_normal ?_
 refine wp_seq ?_
 refine wp_seq ?_
 refine region_from ?_
 refine d_k [0,2,12] [] 3 En2 fun ac3 En4 => ?_
 refine f_o ?_
 refine m_l 0 En4 Hv0 fun ac5 En6 => ?_
 refine f_e ?_
 refine then_normal ?_
 refine c_f En6 ?_
 refine wp_skip ?_
 refine then_normal ?_
 refine wp_seq ?_
 refine region_from ?_
 refine d_k [0,2,14] [] 1 En6 fun ac7 En8 => ?_
 refine f_o ?_
 refine c_l [0] (M := [.box rb [.string (bstr s), ni k, .bool false] 73]) En8 Hv0 (fun hM9 => rest_go _ rb s k false hs (by omega) hM9) ?_
 rintro _ wo10 ⟨rfl, he11⟩
 refine ⟨_, _, [.box rb [.string (bstr s), ni k, .bool false] 73], rfl, he11, by kernel_rfl, fun ac13 En14 Hv15 => ?_⟩
 refine d_e [0,2,3] [] En14 fun ac16 En17 => ?_
 refine then_normal ?_
 refine wp_seq ?_
 have hz := bstr_size (List.drop k s)
 have hnl := nDg_le (List.drop k s)
 have hdl : List.length (List.drop k s) = List.length s - k := List.length_drop
 have htl := trim_le (List.drop k s)
 have hz2 := bstr_size (List.dropWhile dgB (List.drop k s))
 refine region_from ?_
 refine d_k [0,2,3,17,18] [] 3 En17 fun ac18 En19 => ?_
 refine f_o ?_
 refine c_p En19 Hv15 (trim_go _ (List.drop k s)) fun ac24 wo21 En25 Hv26 => ?_
 refine d_e [0,2,3,4] [(5, g_v (show (.int .i64 (IntKind.wrap .i64 (((ByteArray.size (bstr (List.drop k s)) : Nat) : Int) - ((ByteArray.size (bstr (List.dropWhile dgB (List.drop k s))) : Nat) : Int))) : Value) = .int .i64 ((nDg (List.drop k s) : Nat) : Int) by rw [Go.Dbr.wr64 (e := ((ByteArray.size (bstr (List.drop k s)) : Nat) : Int) - ((ByteArray.size (bstr (List.dropWhile dgB (List.drop k s))) : Nat) : Int)) (x := ((ByteArray.size (bstr (List.drop k s)) : Nat) : Int) - ((ByteArray.size (bstr (List.dropWhile dgB (List.drop k s))) : Nat) : Int)) (by omega) (by omega) (by omega), num_n (List.drop k s)] <;> rfl))] En25 fun ac27 En28 => ?_
 refine then_normal ?_
 refine wp_seq ?_
 refine wp_block ?_
 refine wp_seq ?_
 refine d_r [0,2,3,4,22] [] En28 fun ac29 En30 => ?_
 refine then_normal ?_
 refine c_e ((nDg (List.drop k s) : Nat) : Int) (0 : Int) En30 (fun hc31 => ?_) (fun hc31 => ?_)
 ·
  refine wp_seq ?_
  refine region_from ?_
  refine d_k [0,2,3,4,25,28] [] 4 En30 fun ac32 En33 => ?_
  refine f_o ?_
  refine m_l 0 En33 Hv26 fun ac34 En35 => ?_
  refine f_o ?_
  refine c_l [0] (M := [.box rb [.string (bstr s), ni k, .bool false] 73]) En35 Hv26 (fun hM36 => fail_go _ rb s k k false hM36) ?_
  rintro _ wo37 ⟨rfl, he38⟩
  refine ⟨_, _, [.box rb [.string (bstr s), ni k, .bool true] 73], rfl, he38, by kernel_rfl, fun ac40 En41 Hv42 => ?_⟩
  refine f_e ?_
  refine then_normal ?_
  refine wp_seq ?_
  refine d_r [0,2,3,4] [] En41 fun ac43 En44 => ?_
  refine then_normal ?_
  refine wp_ret ?_
  refine block_ret ?_
  refine then_ret ?_
  refine d_ret1 (t := 2) (v := .int .u64 0) En44 (by kernel_rfl) (by kernel_rfl) ?_
  have hno : numOk (List.drop k s) = false := by first | exact num_0 (by omega) | exact num_z (by omega) (UInt8.toNat_inj.1 (by show _ = 48; omega)) | exact num_v (j := j) (by omega) hbv | exact num_l (by omega) (fun q => by have h4 := congrArg UInt8.toNat q; have h5 : UInt8.toNat 48 = 48 := rfl; omega)
  rw [show numV false (List.drop k s) = 0 from by rw [numV, nmB, hno]; rfl, show nmB false (List.drop k s) = true from by rw [nmB, hno]; rfl]
  exact ⟨k, rfl, Hv42.pick [0] (by kernel_rfl) (by decide), (by omega), (fun h => by cases h)⟩
 ·
  refine wp_seq ?_
  refine region_from ?_
  refine d_k [0,2,3,4,34] [] 3 En30 fun ac45 En46 => ?_
  rcases Bool.eq_false_or_eq_true (decide (((nDg (List.drop k s) : Nat) : Int) > (1 : Int))) with hb47 | hb47
  ·
   have En48 := En46.fx (t := 34) (congrArg Value.bool hb47)
   have hp49 : ((nDg (List.drop k s) : Nat) : Int) > (1 : Int) := of_decide_eq_true hb47
   have hb50 : 0 < List.length (List.drop k s) := by omega
   refine d_k [0,2,3,4,34,35] [] 4 En48 fun ac51 En52 => ?_
   refine f_o ?_
   refine q_v (x := Instr.index 9 (.string (bstr (List.drop k s))) (.int .i64 0)) (v := .int .u8 ((UInt8.toNat (List.getD (List.drop k s) 0 0) : Nat) : Int)) En52 (Go.Dbr.run_indexstr (s := (List.drop k s)) (j := 0) (by kernel_rfl) (by omega) hb50 _) fun ac53 En54 => ?_
   refine d_e [0,2,3,4,31] [] En54 fun ac55 En56 => ?_
   refine then_normal ?_
   refine c_e ((UInt8.toNat (List.getD (List.drop k s) 0 0) : Nat) : Int) (48 : Int) En56 (fun hc57 => ?_) (fun hc57 => ?_)
   ·
    refine wp_seq ?_
    refine region_from ?_
    refine d_k [0,2,3,4,39,42] [] 4 En56 fun ac58 En59 => ?_
    refine f_o ?_
    refine m_l 0 En59 Hv26 fun ac60 En61 => ?_
    refine d_k [0,2,3,4,39,44] [(5, g_n (w_a k 1))] 6 En61 fun ac62 En63 => ?_
    refine f_o ?_
    refine c_l [0] (M := [.box rb [.string (bstr s), ni k, .bool false] 73]) En63 Hv26 (fun hM64 => fail_go _ rb s k (k + 1) false hM64) ?_
    rintro _ wo65 ⟨rfl, he66⟩
    refine ⟨_, _, [.box rb [.string (bstr s), .int .i64 ((k + 1 : Nat) : Int), .bool true] 73], rfl, he66, by kernel_rfl, fun ac68 En69 Hv70 => ?_⟩
    refine f_e ?_
    refine then_normal ?_
    refine wp_seq ?_
    refine d_r [0,2,3,4] [] En69 fun ac71 En72 => ?_
    refine then_normal ?_
    refine wp_ret ?_
    refine block_ret ?_
    refine then_ret ?_
    refine d_ret1 (t := 2) (v := .int .u64 0) En72 (by kernel_rfl) (by kernel_rfl) ?_
    have hno : numOk (List.drop k s) = false := by first | exact num_0 (by omega) | exact num_z (by omega) (UInt8.toNat_inj.1 (by show _ = 48; omega)) | exact num_v (j := j) (by omega) hbv | exact num_l (by omega) (fun q => by have h4 := congrArg UInt8.toNat q; have h5 : UInt8.toNat 48 = 48 := rfl; omega)
    rw [show numV false (List.drop k s) = 0 from by rw [numV, nmB, hno]; rfl, show nmB false (List.drop k s) = true from by rw [nmB, hno]; rfl]
    exact ⟨(k + 1), rfl, Hv70.pick [0] (by kernel_rfl) (by decide), (by omega), (fun h => by cases h)⟩
   ·
    refine wp_skip ?_
    refine block_normal ?_
    refine then_normal ?_
    refine wp_seq ?_
    refine wp_seq ?_
    refine d_r [0,2,3,4,5] [] En56 fun ac73 En74 => ?_
    refine then_normal ?_
    refine wp_block ?_
    refine loop_m (fun ms75 ac wo => ∃ (j : Nat), ms75 = (21 - j : Nat) ∧ Env ac 95 [(0, pt rb), (3, .string (bstr (List.drop k s))), (4, .int .i64 ((nDg (List.drop k s) : Nat) : Int)), (5, ni j)] ∧ Ev w [.box rb [.string (bstr s), ni k, .bool false] 73] wo [.box rb [.string (bstr s), ni k, .bool false] 73] ∧ (1 ≤ j) ∧ (j ≤ min (nDg (List.drop k s)) 20 + 1) ∧ (valD 0 (List.take (j - 1) (List.drop k s)) < 18446744073709551616)) ⟨_, 1, rfl, En74.sub (by kernel_rfl), Hv26.pick [0] (by kernel_rfl) (by decide), (Nat.le_refl _), (by omega), (by rw [Nat.sub_self, List.take_zero, val_nil]; decide)⟩ ?_
    rintro mm81 ac77 wo78 ⟨j, rfl, En79, Hv80, hj1, hj2, hjv⟩
    refine wp_seq ?_
    refine wp_seq ?_
    refine d_r [0,3,4,5,49] [(2, g_i .i64 (min_20 (nDg (List.drop k s))))] En79 fun ac82 En83 => ?_
    refine then_normal ?_
    refine c_d (((j : Nat) : Int) ≤ ((min (nDg (List.drop k s)) 20 : Nat) : Int)) En83 (fun hc84 => ?_) (fun hc84 => ?_)
    ·
     refine wp_skip ?_
     refine then_normal ?_
     refine wp_seq ?_
     refine wp_block ?_
     refine wp_seq ?_
     have hall := take_all (r := List.drop k s) (j := j) (by omega)
     have htl2 : List.length (List.take j (List.drop k s)) = j := by rw [List.length_take]; omega
     have hne : List.take j (List.drop k s) ≠ [] := fun e => by rw [e] at htl2; simp at htl2; omega
     by_cases hbv : valD 0 (List.take j (List.drop k s)) < 18446744073709551616
     ·
      refine region_from ?_
      refine d_k [0,3,4,5,53,54] [] 2 En83 fun ac85 En86 => ?_
      refine f_o ?_
      refine q_v (x := Instr.sliceAt 9 (.string (bstr (List.drop k s))) none (some (ni j)) none) (v := .string (bstr (List.take j (List.drop k s)))) En86 (Go.Dbr.run_strto (l := (List.drop k s)) (j := j) (by kernel_rfl) (by omega) (by omega) _) fun ac87 En88 => ?_
      refine f_o ?_
      refine c_p En88 Hv80 (pu_ok _ (List.take j (List.drop k s)) (by omega) hne hall hbv) fun ac93 wo90 En94 Hv95 => ?_
      refine d_e [0,3,4,5,7] [] En94 fun ac96 En97 => ?_
      refine then_normal ?_
      refine wp_seq ?_
      refine d_r [0,3,4,5,60] [] En97 fun ac98 En99 => ?_
      refine then_normal ?_
      refine c_f En99 ?_
      refine wp_skip ?_
      refine block_normal ?_
      refine then_normal ?_
      refine d_r [0,3,4,5] [(1, g_n (w_a j 1))] En99 fun ac100 En101 => ?_
      refine then_normal ?_
      refine ⟨_, ⟨j + 1, rfl, En101.sub (by kernel_rfl), Hv95.pick [0] (by kernel_rfl) (by decide), (by omega), (by omega), (by rw [Nat.add_sub_cancel]; exact hbv)⟩, ?_⟩
      omega
     ·
      refine region_from ?_
      refine d_k [0,3,4,5,53,54] [] 2 En83 fun ac102 En103 => ?_
      refine f_o ?_
      refine q_v (x := Instr.sliceAt 9 (.string (bstr (List.drop k s))) none (some (ni j)) none) (v := .string (bstr (List.take j (List.drop k s)))) En103 (Go.Dbr.run_strto (l := (List.drop k s)) (j := j) (by kernel_rfl) (by omega) (by omega) _) fun ac104 En105 => ?_
      refine f_o ?_
      refine c_0 En105 Hv80 (pu_no _ (List.take j (List.drop k s)) (by omega) hne hall hbv ((ge.ev Hv80).nil)) ?_
      rintro _ wo108 ⟨nb106, rfl, he109⟩
      refine ⟨_, _, _, rfl, he109, rfl, fun ac111 En112 Hv113 => ?_⟩
      refine d_e [0,3,4,5,7] [] En112 fun ac114 En115 => ?_
      refine then_normal ?_
      refine wp_seq ?_
      refine d_r [0,3,4,5,60] [] En115 fun ac116 En117 => ?_
      refine then_normal ?_
      refine c_t En117 ?_
      refine wp_seq ?_
      refine region_from ?_
      refine d_k [0,3,4,5,61,64] [] 4 En117 fun ac118 En119 => ?_
      refine f_o ?_
      refine m_l 0 En119 Hv113 fun ac120 En121 => ?_
      refine d_k [0,3,4,5,61,68] [(6, g_n (w_a k j)), (7, g_v (show (.int .i64 (IntKind.wrap .i64 (((k + j : Nat) : Int) - (1 : Int))) : Value) = .int .i64 ((k + j - 1 : Nat) : Int) by rw [Go.Dbr.wr64 (e := ((k + j : Nat) : Int) - (1 : Int)) (x := ((k + j : Nat) : Int) - (1 : Int)) (by omega) (by omega) (by omega), sub_1 (k := k) (j := j) (by omega)] <;> rfl))] 8 En121 fun ac122 En123 => ?_
      refine f_o ?_
      refine c_l [0] (M := [.box rb [.string (bstr s), ni k, .bool false] 73]) En123 Hv113 (fun hM124 => fail_go _ rb s k (k + j - 1) false hM124) ?_
      rintro _ wo125 ⟨rfl, he126⟩
      refine ⟨_, _, [.box rb [.string (bstr s), .int .i64 ((k + j - 1 : Nat) : Int), .bool true] 73], rfl, he126, by kernel_rfl, fun ac128 En129 Hv130 => ?_⟩
      refine f_e ?_
      refine then_normal ?_
      refine wp_seq ?_
      refine d_r [0,2,3,4,5] [] En129 fun ac131 En132 => ?_
      refine then_normal ?_
      refine wp_ret ?_
      refine block_ret ?_
      refine then_ret ?_
      refine then_ret ?_
      refine block_ret ?_
      refine then_ret ?_
      refine d_ret1 (t := 2) (v := .int .u64 0) En132 (by kernel_rfl) (by kernel_rfl) ?_
      have hno : numOk (List.drop k s) = false := by first | exact num_0 (by omega) | exact num_z (by omega) (UInt8.toNat_inj.1 (by show _ = 48; omega)) | exact num_v (j := j) (by omega) hbv | exact num_l (by omega) (fun q => by have h4 := congrArg UInt8.toNat q; have h5 : UInt8.toNat 48 = 48 := rfl; omega)
      rw [show numV false (List.drop k s) = 0 from by rw [numV, nmB, hno]; rfl, show nmB false (List.drop k s) = true from by rw [nmB, hno]; rfl]
      exact ⟨(k + j - 1), rfl, Hv130.pick [0] (by kernel_rfl) (by decide), (by omega), (fun h => by cases h)⟩
    ·
     refine wp_exit ?_
     refine then_exit ?_
     refine then_exit ?_
     refine block_exit ?_
     refine then_normal ?_
     refine wp_seq ?_
     refine wp_seq ?_
     refine d_r [0,3,4,5,71] [] En83 fun ac133 En134 => ?_
     refine then_normal ?_
     refine c_d (((nDg (List.drop k s) : Nat) : Int) > (20 : Int)) En134 (fun hc135 => ?_) (fun hc135 => ?_)
     ·
      refine wp_seq ?_
      refine region_from ?_
      refine d_k [0,3,4,5,72,75] [] 4 En134 fun ac136 En137 => ?_
      refine f_o ?_
      refine m_l 0 En137 Hv80 fun ac138 En139 => ?_
      refine d_k [0,3,4,5,72,77] [(5, g_n (w_a k 20))] 6 En139 fun ac140 En141 => ?_
      refine f_o ?_
      refine c_l [0] (M := [.box rb [.string (bstr s), ni k, .bool false] 73]) En141 Hv80 (fun hM142 => fail_go _ rb s k (k + 20) false hM142) ?_
      rintro _ wo143 ⟨rfl, he144⟩
      refine ⟨_, _, [.box rb [.string (bstr s), .int .i64 ((k + 20 : Nat) : Int), .bool true] 73], rfl, he144, by kernel_rfl, fun ac146 En147 Hv148 => ?_⟩
      refine f_e ?_
      refine then_normal ?_
      refine wp_seq ?_
      refine d_r [0,2,3,4,5] [] En147 fun ac149 En150 => ?_
      refine then_normal ?_
      refine wp_ret ?_
      refine then_ret ?_
      refine d_ret1 (t := 2) (v := .int .u64 0) En150 (by kernel_rfl) (by kernel_rfl) ?_
      have hno : numOk (List.drop k s) = false := by first | exact num_0 (by omega) | exact num_z (by omega) (UInt8.toNat_inj.1 (by show _ = 48; omega)) | exact num_v (j := j) (by omega) hbv | exact num_l (by omega) (fun q => by have h4 := congrArg UInt8.toNat q; have h5 : UInt8.toNat 48 = 48 := rfl; omega)
      rw [show numV false (List.drop k s) = 0 from by rw [numV, nmB, hno]; rfl, show nmB false (List.drop k s) = true from by rw [nmB, hno]; rfl]
      exact ⟨(k + 20), rfl, Hv148.pick [0] (by kernel_rfl) (by decide), (by omega), (fun h => by cases h)⟩
     ·
      refine wp_skip ?_
      refine then_normal ?_
      refine wp_seq ?_
      have hje : j - 1 = nDg (List.drop k s) := by omega
      rw [hje] at hjv
      have hbv := hjv
      have hall := take_all (r := List.drop k s) (Nat.le_refl _)
      have htl2 : List.length (List.take (nDg (List.drop k s)) (List.drop k s)) = nDg (List.drop k s) := by rw [List.length_take]; omega
      have hne : List.take (nDg (List.drop k s)) (List.drop k s) ≠ [] := fun e => by rw [e] at htl2; simp at htl2; omega
      refine region_from ?_
      refine d_k [0,3,4,5,80,81] [] 2 En134 fun ac151 En152 => ?_
      refine f_o ?_
      refine q_v (x := Instr.sliceAt 9 (.string (bstr (List.drop k s))) none (some (.int .i64 ((nDg (List.drop k s) : Nat) : Int))) none) (v := .string (bstr (List.take (nDg (List.drop k s)) (List.drop k s)))) En152 (Go.Dbr.run_strto (l := (List.drop k s)) (j := (nDg (List.drop k s))) (by kernel_rfl) (by omega) (by omega) _) fun ac153 En154 => ?_
      refine f_o ?_
      refine c_p En154 Hv80 (pu_ok _ (List.take (nDg (List.drop k s)) (List.drop k s)) (by omega) hne hall hbv) fun ac159 wo156 En160 Hv161 => ?_
      refine d_e [0,3,4,5,8] [] En160 fun ac162 En163 => ?_
      refine then_normal ?_
      refine wp_seq ?_
      refine region_from ?_
      refine d_k [0,3,4,5,8,86,88] [] 3 En163 fun ac164 En165 => ?_
      refine f_o ?_
      refine m_l 0 En165 Hv161 fun ac166 En167 => ?_
      refine d_k [0,3,4,5,8,91,93] [(5, g_n (w_a k (nDg (List.drop k s))))] 8 En167 fun ac168 En169 => ?_
      refine f_o ?_
      refine m_s 0 [.box rb [.string (bstr s), .int .i64 ((k + (nDg (List.drop k s)) : Nat) : Int), .bool false] 73] En169 Hv161 fun ac170 wo171 En172 Hv173 => ?_
      refine f_e ?_
      refine then_normal ?_
      refine wp_seq ?_
      refine d_r [0,2,3,4,5] [] En172 fun ac174 En175 => ?_
      refine then_normal ?_
      refine wp_ret ?_
      refine d_ret1 (t := 2) (v := .int .u64 ((UInt64.toNat (UInt64.ofNat (valD 0 (List.take (nDg (List.drop k s)) (List.drop k s)))) : Nat) : Int)) En175 (by kernel_rfl) (by kernel_rfl) ?_
      have hyes : numOk (List.drop k s) = true := num_y (by omega) (fun q => by have h4 := congrArg UInt8.toNat q.2; have h5 : UInt8.toNat 48 = 48 := rfl; have h6 := q.1; omega) hbv
      rw [show numV false (List.drop k s) = UInt64.ofNat (valD 0 (List.take (nDg (List.drop k s)) (List.drop k s))) from by rw [numV, nmB, hyes]; rfl, show nmB false (List.drop k s) = false from by rw [nmB, hyes]; rfl]
      exact ⟨(k + (nDg (List.drop k s))), rfl, Hv173.pick [0] (by kernel_rfl) (by decide), (by omega), (fun _ => rfl)⟩
  ·
   have En176 := En46.fx (t := 34) (congrArg Value.bool hb47)
   have hp177 : ¬ (((nDg (List.drop k s) : Nat) : Int) > (1 : Int)) := of_decide_eq_false hb47
   refine d_e [0,2,3,4,31] [] En176 fun ac178 En179 => ?_
   refine then_normal ?_
   refine c_f En179 ?_
   refine wp_skip ?_
   refine block_normal ?_
   refine then_normal ?_
   refine wp_seq ?_
   refine wp_seq ?_
   refine d_r [0,2,3,4,5] [] En179 fun ac180 En181 => ?_
   refine then_normal ?_
   refine wp_block ?_
   refine loop_m (fun ms182 ac wo => ∃ (j : Nat), ms182 = (21 - j : Nat) ∧ Env ac 95 [(0, pt rb), (3, .string (bstr (List.drop k s))), (4, .int .i64 ((nDg (List.drop k s) : Nat) : Int)), (5, ni j)] ∧ Ev w [.box rb [.string (bstr s), ni k, .bool false] 73] wo [.box rb [.string (bstr s), ni k, .bool false] 73] ∧ (1 ≤ j) ∧ (j ≤ min (nDg (List.drop k s)) 20 + 1) ∧ (valD 0 (List.take (j - 1) (List.drop k s)) < 18446744073709551616)) ⟨_, 1, rfl, En181.sub (by kernel_rfl), Hv26.pick [0] (by kernel_rfl) (by decide), (Nat.le_refl _), (by omega), (by rw [Nat.sub_self, List.take_zero, val_nil]; decide)⟩ ?_
   rintro mm188 ac184 wo185 ⟨j, rfl, En186, Hv187, hj1, hj2, hjv⟩
   refine wp_seq ?_
   refine wp_seq ?_
   refine d_r [0,3,4,5,49] [(2, g_i .i64 (min_20 (nDg (List.drop k s))))] En186 fun ac189 En190 => ?_
   refine then_normal ?_
   refine c_d (((j : Nat) : Int) ≤ ((min (nDg (List.drop k s)) 20 : Nat) : Int)) En190 (fun hc191 => ?_) (fun hc191 => ?_)
   ·
    refine wp_skip ?_
    refine then_normal ?_
    refine wp_seq ?_
    refine wp_block ?_
    refine wp_seq ?_
    have hall := take_all (r := List.drop k s) (j := j) (by omega)
    have htl2 : List.length (List.take j (List.drop k s)) = j := by rw [List.length_take]; omega
    have hne : List.take j (List.drop k s) ≠ [] := fun e => by rw [e] at htl2; simp at htl2; omega
    by_cases hbv : valD 0 (List.take j (List.drop k s)) < 18446744073709551616
    ·
     refine region_from ?_
     refine d_k [0,3,4,5,53,54] [] 2 En190 fun ac192 En193 => ?_
     refine f_o ?_
     refine q_v (x := Instr.sliceAt 9 (.string (bstr (List.drop k s))) none (some (ni j)) none) (v := .string (bstr (List.take j (List.drop k s)))) En193 (Go.Dbr.run_strto (l := (List.drop k s)) (j := j) (by kernel_rfl) (by omega) (by omega) _) fun ac194 En195 => ?_
     refine f_o ?_
     refine c_p En195 Hv187 (pu_ok _ (List.take j (List.drop k s)) (by omega) hne hall hbv) fun ac200 wo197 En201 Hv202 => ?_
     refine d_e [0,3,4,5,7] [] En201 fun ac203 En204 => ?_
     refine then_normal ?_
     refine wp_seq ?_
     refine d_r [0,3,4,5,60] [] En204 fun ac205 En206 => ?_
     refine then_normal ?_
     refine c_f En206 ?_
     refine wp_skip ?_
     refine block_normal ?_
     refine then_normal ?_
     refine d_r [0,3,4,5] [(1, g_n (w_a j 1))] En206 fun ac207 En208 => ?_
     refine then_normal ?_
     refine ⟨_, ⟨j + 1, rfl, En208.sub (by kernel_rfl), Hv202.pick [0] (by kernel_rfl) (by decide), (by omega), (by omega), (by rw [Nat.add_sub_cancel]; exact hbv)⟩, ?_⟩
     omega
    ·
     refine region_from ?_
     refine d_k [0,3,4,5,53,54] [] 2 En190 fun ac209 En210 => ?_
     refine f_o ?_
     refine q_v (x := Instr.sliceAt 9 (.string (bstr (List.drop k s))) none (some (ni j)) none) (v := .string (bstr (List.take j (List.drop k s)))) En210 (Go.Dbr.run_strto (l := (List.drop k s)) (j := j) (by kernel_rfl) (by omega) (by omega) _) fun ac211 En212 => ?_
     refine f_o ?_
     refine c_0 En212 Hv187 (pu_no _ (List.take j (List.drop k s)) (by omega) hne hall hbv ((ge.ev Hv187).nil)) ?_
     rintro _ wo215 ⟨nb213, rfl, he216⟩
     refine ⟨_, _, _, rfl, he216, rfl, fun ac218 En219 Hv220 => ?_⟩
     refine d_e [0,3,4,5,7] [] En219 fun ac221 En222 => ?_
     refine then_normal ?_
     refine wp_seq ?_
     refine d_r [0,3,4,5,60] [] En222 fun ac223 En224 => ?_
     refine then_normal ?_
     refine c_t En224 ?_
     refine wp_seq ?_
     refine region_from ?_
     refine d_k [0,3,4,5,61,64] [] 4 En224 fun ac225 En226 => ?_
     refine f_o ?_
     refine m_l 0 En226 Hv220 fun ac227 En228 => ?_
     refine d_k [0,3,4,5,61,68] [(6, g_n (w_a k j)), (7, g_v (show (.int .i64 (IntKind.wrap .i64 (((k + j : Nat) : Int) - (1 : Int))) : Value) = .int .i64 ((k + j - 1 : Nat) : Int) by rw [Go.Dbr.wr64 (e := ((k + j : Nat) : Int) - (1 : Int)) (x := ((k + j : Nat) : Int) - (1 : Int)) (by omega) (by omega) (by omega), sub_1 (k := k) (j := j) (by omega)] <;> rfl))] 8 En228 fun ac229 En230 => ?_
     refine f_o ?_
     refine c_l [0] (M := [.box rb [.string (bstr s), ni k, .bool false] 73]) En230 Hv220 (fun hM231 => fail_go _ rb s k (k + j - 1) false hM231) ?_
     rintro _ wo232 ⟨rfl, he233⟩
     refine ⟨_, _, [.box rb [.string (bstr s), .int .i64 ((k + j - 1 : Nat) : Int), .bool true] 73], rfl, he233, by kernel_rfl, fun ac235 En236 Hv237 => ?_⟩
     refine f_e ?_
     refine then_normal ?_
     refine wp_seq ?_
     refine d_r [0,2,3,4,5] [] En236 fun ac238 En239 => ?_
     refine then_normal ?_
     refine wp_ret ?_
     refine block_ret ?_
     refine then_ret ?_
     refine then_ret ?_
     refine block_ret ?_
     refine then_ret ?_
     refine d_ret1 (t := 2) (v := .int .u64 0) En239 (by kernel_rfl) (by kernel_rfl) ?_
     have hno : numOk (List.drop k s) = false := by first | exact num_0 (by omega) | exact num_z (by omega) (UInt8.toNat_inj.1 (by show _ = 48; omega)) | exact num_v (j := j) (by omega) hbv | exact num_l (by omega) (fun q => by have h4 := congrArg UInt8.toNat q; have h5 : UInt8.toNat 48 = 48 := rfl; omega)
     rw [show numV false (List.drop k s) = 0 from by rw [numV, nmB, hno]; rfl, show nmB false (List.drop k s) = true from by rw [nmB, hno]; rfl]
     exact ⟨(k + j - 1), rfl, Hv237.pick [0] (by kernel_rfl) (by decide), (by omega), (fun h => by cases h)⟩
   ·
    refine wp_exit ?_
    refine then_exit ?_
    refine then_exit ?_
    refine block_exit ?_
    refine then_normal ?_
    refine wp_seq ?_
    refine wp_seq ?_
    refine d_r [0,3,4,5,71] [] En190 fun ac240 En241 => ?_
    refine then_normal ?_
    refine c_d (((nDg (List.drop k s) : Nat) : Int) > (20 : Int)) En241 (fun hc242 => ?_) (fun hc242 => ?_)
    ·
     refine wp_seq ?_
     refine region_from ?_
     refine d_k [0,3,4,5,72,75] [] 4 En241 fun ac243 En244 => ?_
     refine f_o ?_
     refine m_l 0 En244 Hv187 fun ac245 En246 => ?_
     refine d_k [0,3,4,5,72,77] [(5, g_n (w_a k 20))] 6 En246 fun ac247 En248 => ?_
     refine f_o ?_
     refine c_l [0] (M := [.box rb [.string (bstr s), ni k, .bool false] 73]) En248 Hv187 (fun hM249 => fail_go _ rb s k (k + 20) false hM249) ?_
     rintro _ wo250 ⟨rfl, he251⟩
     refine ⟨_, _, [.box rb [.string (bstr s), .int .i64 ((k + 20 : Nat) : Int), .bool true] 73], rfl, he251, by kernel_rfl, fun ac253 En254 Hv255 => ?_⟩
     refine f_e ?_
     refine then_normal ?_
     refine wp_seq ?_
     refine d_r [0,2,3,4,5] [] En254 fun ac256 En257 => ?_
     refine then_normal ?_
     refine wp_ret ?_
     refine then_ret ?_
     refine d_ret1 (t := 2) (v := .int .u64 0) En257 (by kernel_rfl) (by kernel_rfl) ?_
     have hno : numOk (List.drop k s) = false := by first | exact num_0 (by omega) | exact num_z (by omega) (UInt8.toNat_inj.1 (by show _ = 48; omega)) | exact num_v (j := j) (by omega) hbv | exact num_l (by omega) (fun q => by have h4 := congrArg UInt8.toNat q; have h5 : UInt8.toNat 48 = 48 := rfl; omega)
     rw [show numV false (List.drop k s) = 0 from by rw [numV, nmB, hno]; rfl, show nmB false (List.drop k s) = true from by rw [nmB, hno]; rfl]
     exact ⟨(k + 20), rfl, Hv255.pick [0] (by kernel_rfl) (by decide), (by omega), (fun h => by cases h)⟩
    ·
     refine wp_skip ?_
     refine then_normal ?_
     refine wp_seq ?_
     have hje : j - 1 = nDg (List.drop k s) := by omega
     rw [hje] at hjv
     have hbv := hjv
     have hall := take_all (r := List.drop k s) (Nat.le_refl _)
     have htl2 : List.length (List.take (nDg (List.drop k s)) (List.drop k s)) = nDg (List.drop k s) := by rw [List.length_take]; omega
     have hne : List.take (nDg (List.drop k s)) (List.drop k s) ≠ [] := fun e => by rw [e] at htl2; simp at htl2; omega
     refine region_from ?_
     refine d_k [0,3,4,5,80,81] [] 2 En241 fun ac258 En259 => ?_
     refine f_o ?_
     refine q_v (x := Instr.sliceAt 9 (.string (bstr (List.drop k s))) none (some (.int .i64 ((nDg (List.drop k s) : Nat) : Int))) none) (v := .string (bstr (List.take (nDg (List.drop k s)) (List.drop k s)))) En259 (Go.Dbr.run_strto (l := (List.drop k s)) (j := (nDg (List.drop k s))) (by kernel_rfl) (by omega) (by omega) _) fun ac260 En261 => ?_
     refine f_o ?_
     refine c_p En261 Hv187 (pu_ok _ (List.take (nDg (List.drop k s)) (List.drop k s)) (by omega) hne hall hbv) fun ac266 wo263 En267 Hv268 => ?_
     refine d_e [0,3,4,5,8] [] En267 fun ac269 En270 => ?_
     refine then_normal ?_
     refine wp_seq ?_
     refine region_from ?_
     refine d_k [0,3,4,5,8,86,88] [] 3 En270 fun ac271 En272 => ?_
     refine f_o ?_
     refine m_l 0 En272 Hv268 fun ac273 En274 => ?_
     refine d_k [0,3,4,5,8,91,93] [(5, g_n (w_a k (nDg (List.drop k s))))] 8 En274 fun ac275 En276 => ?_
     refine f_o ?_
     refine m_s 0 [.box rb [.string (bstr s), .int .i64 ((k + (nDg (List.drop k s)) : Nat) : Int), .bool false] 73] En276 Hv268 fun ac277 wo278 En279 Hv280 => ?_
     refine f_e ?_
     refine then_normal ?_
     refine wp_seq ?_
     refine d_r [0,2,3,4,5] [] En279 fun ac281 En282 => ?_
     refine then_normal ?_
     refine wp_ret ?_
     refine d_ret1 (t := 2) (v := .int .u64 ((UInt64.toNat (UInt64.ofNat (valD 0 (List.take (nDg (List.drop k s)) (List.drop k s)))) : Nat) : Int)) En282 (by kernel_rfl) (by kernel_rfl) ?_
     have hyes : numOk (List.drop k s) = true := num_y (by omega) (fun q => by have h4 := congrArg UInt8.toNat q.2; have h5 : UInt8.toNat 48 = 48 := rfl; have h6 := q.1; omega) hbv
     rw [show numV false (List.drop k s) = UInt64.ofNat (valD 0 (List.take (nDg (List.drop k s)) (List.drop k s))) from by rw [numV, nmB, hyes]; rfl, show nmB false (List.drop k s) = false from by rw [nmB, hyes]; rfl]
     exact ⟨(k + (nDg (List.drop k s))), rfl, Hv280.pick [0] (by kernel_rfl) (by decide), (by omega), (fun _ => rfl)⟩

theorem number_go (w : World) (rb : Nat) (s : Bs) (k : Nat) (bd : Bool) (hs : List.length s ≤ 1024) (hk : k ≤ List.length s) (ge : InE w [.box rb [.string (bstr s), ni k, .bool bd] 73]) (hH : Heap w [.box rb [.string (bstr s), ni k, .bool bd] 73]) : Calls Tryd.prog 27 #[pt rb] w fun e w' => ∃ p, e = .returned (uv64 (numV bd (List.drop k s))) ∧ Ev w [.box rb [.string (bstr s), ni k, .bool bd] 73] w' [.box rb [.string (bstr s), ni p, .bool (nmB bd (List.drop k s))] 73] ∧ p ≤ List.length s ∧ (nmB bd (List.drop k s) = false → p = k + nDg (List.drop k s)) := by
  cases bd with
  | false => exact number_f w rb s k hs hk ge hH
  | true => exact number_t w rb s k hs hk ge hH

end Go.Proofs.YtfcfgbejpcmmkaaDoor

/- Layer 3: the reader of lines: words, what stands behind a backslash. -/


namespace Go.Proofs.YtfcfgbejpcmmkaaDoor
open Go.Dbr
set_option maxRecDepth 100000
set_option maxHeartbeats 2000000
set_option linter.unusedVariables false
set_option linter.unusedSimpArgs false

def wdB (bd : Bool) (r : Bs) : Bool := bd || !wordB (r.take (runN r))
def wdV (bd : Bool) (r : Bs) : Bs := if wdB bd r then [] else r.take (runN r)
theorem wdV_len (bd : Bool) (r : Bs) : (wdV bd r).length ≤ 32 := by
  unfold wdV
  split
  · simp
  · rename_i h
    unfold wdB at h
    simp only [Bool.or_eq_true, Bool.not_eq_true', not_or, Bool.not_eq_false] at h
    exact (word_len h.2).2
/-- the number of two hexadecimal digits -/
def hvN (r : Bs) : Nat := (hxV (r.getD 1 0)).toNat * 16 + (hxV (r.getD 2 0)).toNat
/-- what stands behind a backslash: the byte, how much was read -/
def rdEsc (r : Bs) : Option (UInt8 × Nat) :=
  if r.length = 0 then none
  else if r.getD 0 0 = 34 ∨ r.getD 0 0 = 92 then some (r.getD 0 0, 1)
  else if r.getD 0 0 = 120 ∧ 3 ≤ r.length ∧ 0 ≤ hxV (r.getD 1 0) ∧ 0 ≤ hxV (r.getD 2 0) ∧ ¬ (32 ≤ hvN r ∧ hvN r < 127) then some (UInt8.ofNat (hvN r), 3) else none
theorem drop_getD (s : Bs) (a b : Nat) : List.getD (List.drop a s) b 0 = List.getD s (a + b) 0 := by
  rw [List.getD_eq_getElem?_getD, List.getD_eq_getElem?_getD, List.getElem?_drop]
theorem hx_le (c : UInt8) : hxV c < 16 := by
  have : ∀ n : Fin 256, hxV (UInt8.ofNat n.val) < 16 := by decide +kernel
  have h := this ⟨c.toNat, UInt8.toNat_lt c⟩
  simpa using h
theorem esc_1 {r : Bs} (h : ¬ r.length = 0) (g : r.getD 0 0 = 34 ∨ r.getD 0 0 = 92) : rdEsc r = some (r.getD 0 0, 1) := by rw [rdEsc, if_neg h, if_pos g]
theorem esc_n {r : Bs} (g : ¬ (r.getD 0 0 = 34 ∨ r.getD 0 0 = 92)) (q : ¬ (r.getD 0 0 = 120 ∧ 3 ≤ r.length ∧ 0 ≤ hxV (r.getD 1 0) ∧ 0 ≤ hxV (r.getD 2 0) ∧ ¬ (32 ≤ hvN r ∧ hvN r < 127))) : rdEsc r = none := by
  unfold rdEsc
  by_cases h0 : r.length = 0
  · rw [if_pos h0]
  · rw [if_neg h0, if_neg g, if_neg q]
theorem esc_3 {r : Bs} (g : ¬ (r.getD 0 0 = 34 ∨ r.getD 0 0 = 92)) (q : r.getD 0 0 = 120 ∧ 3 ≤ r.length ∧ 0 ≤ hxV (r.getD 1 0) ∧ 0 ≤ hxV (r.getD 2 0) ∧ ¬ (32 ≤ hvN r ∧ hvN r < 127)) : rdEsc r = some (UInt8.ofNat (hvN r), 3) := by
  have h : ¬ r.length = 0 := by have := q.2.1; omega
  rw [rdEsc, if_neg h, if_neg g, if_pos q]
theorem x_pre (r : Bs) : ([120] : Bs).isPrefixOf r = true ↔ (1 ≤ r.length ∧ r.getD 0 0 = 120) := by
  cases r with
  | nil => simp [List.isPrefixOf]
  | cons c t =>
    rw [show ([120] : Bs).isPrefixOf (c :: t) = ((120 == c) && ([] : Bs).isPrefixOf t) from rfl, show ([] : Bs).isPrefixOf t = true from rfl, Bool.and_true, beq_iff_eq]
    exact ⟨fun h => ⟨by simp, h.symm⟩, fun h => h.2.symm⟩

theorem word_go2 (w : World) (rb : Nat) (s : Bs) (k : Nat) (bd : Bool) (hs : List.length s ≤ 1024) (hk : k ≤ List.length s) (hH : Heap w [.box rb [.string (bstr s), ni k, .bool bd] 73]) : Calls Tryd.prog 28 #[pt rb] w fun e w' => ∃ p, e = .returned (.string (bstr (wdV bd (List.drop k s)))) ∧ Ev w [.box rb [.string (bstr s), ni k, .bool bd] 73] w' [.box rb [.string (bstr s), ni p, .bool (wdB bd (List.drop k s))] 73] ∧ p ≤ List.length s ∧ (wdB bd (List.drop k s) = false → p = k + runN (List.drop k s)) := by
 refine d_0 [(0, pt rb)] 33 Go.Proofs.Tryd.func28 Go.Proofs.Tryd.ntmps28 (hH) fun act0 En0 Hv0 => ?_
 refine wp_seq ?_
 refine d_r [0,2] [] En0 fun ac1 En2 => ?_
 refine then_normal ?_
 refine wp_seq ?_
 refine wp_seq ?_
 refine region_from ?_
 refine d_k [0,2,6] [] 3 En2 fun ac3 En4 => ?_
 refine f_o ?_
 refine m_l 0 En4 Hv0 fun ac5 En6 => ?_
 refine f_e ?_
 refine then_normal ?_
 refine cond_at En6 (t := bd) (by kernel_rfl) (fun hc7 => ?_) (fun hc7 => ?_)
 ·
  replace hc7 : bd = true := hc7
  refine wp_seq ?_
  refine d_r [0,2] [] En6 fun ac8 En9 => ?_
  refine then_normal ?_
  refine wp_ret ?_
  refine then_ret ?_
  refine d_ret1 (t := 2) (v := .string (bstr [])) En9 (by kernel_rfl) (by kernel_rfl) ?_
  have hbt : bd = true := by assumption
  subst hbt
  exact ⟨k, rfl, Hv0.pick [0] (by kernel_rfl) (by decide), hk, (fun h => by cases h)⟩
 ·
  replace hc7 : ¬ (bd = true) := Bool.eq_false_iff.1 hc7
  refine wp_skip ?_
  refine then_normal ?_
  refine wp_seq ?_
  refine region_from ?_
  refine d_k [0,2,8] [] 1 En6 fun ac10 En11 => ?_
  refine f_o ?_
  refine c_l [0] (M := [.box rb [.string (bstr s), ni k, .bool bd] 73]) En11 Hv0 (fun hM12 => rest_go _ rb s k bd hs (by omega) hM12) ?_
  rintro _ wo13 ⟨rfl, he14⟩
  refine ⟨_, _, [.box rb [.string (bstr s), ni k, .bool bd] 73], rfl, he14, by kernel_rfl, fun ac16 En17 Hv18 => ?_⟩
  refine d_e [0,2,3] [] En17 fun ac19 En20 => ?_
  refine then_normal ?_
  refine wp_seq ?_
  have hrl := run_le (List.drop k s)
  have hdl : List.length (List.drop k s) = List.length s - k := List.length_drop
  refine region_from ?_
  refine d_k [0,2,3,10,11] [] 2 En20 fun ac21 En22 => ?_
  refine f_o ?_
  refine c_p En22 Hv18 (run_go _ (List.drop k s) (by first | assumption | omega)) fun ac27 wo24 En28 Hv29 => ?_
  refine f_o ?_
  refine q_v (x := Instr.sliceAt 9 (.string (bstr (List.drop k s))) none (some (.int .i64 ((runN (List.drop k s) : Nat) : Int))) none) (v := .string (bstr (List.take (runN (List.drop k s)) (List.drop k s)))) En28 (Go.Dbr.run_strto (l := (List.drop k s)) (j := (runN (List.drop k s))) (by kernel_rfl) (by omega) (by omega) _) fun ac30 En31 => ?_
  refine d_e [0,2,3] [] En31 fun ac32 En33 => ?_
  refine then_normal ?_
  refine wp_seq ?_
  refine wp_seq ?_
  have htl : List.length (List.take (runN (List.drop k s)) (List.drop k s)) = runN (List.drop k s) := by rw [List.length_take]; omega
  have hz := bstr_size (List.take (runN (List.drop k s)) (List.drop k s))
  refine region_from ?_
  refine d_k [0,2,3,14] [] 1 En33 fun ac34 En35 => ?_
  refine f_o ?_
  refine c_p En35 Hv29 (word_go _ (List.take (runN (List.drop k s)) (List.drop k s)) (by first | assumption | omega)) fun ac40 wo37 En41 Hv42 => ?_
  refine d_e [0,2,3,16] [] En41 fun ac43 En44 => ?_
  refine then_normal ?_
  refine cond_at En44 (t := !(wordB (List.take (runN (List.drop k s)) (List.drop k s)))) (by kernel_rfl) (fun hc45 => ?_) (fun hc45 => ?_)
  ·
   replace hc45 : ¬ (wordB (List.take (runN (List.drop k s)) (List.drop k s)) = true) := by first | exact nb_t hc45 | exact nb_f hc45 | (simp at hc45; done) | (simp; done) | simpa using hc45
   refine wp_seq ?_
   refine region_from ?_
   refine d_k [0,2,3,17,20] [] 4 En44 fun ac46 En47 => ?_
   refine f_o ?_
   refine m_l 0 En47 Hv42 fun ac48 En49 => ?_
   refine f_o ?_
   refine c_l [0] (M := [.box rb [.string (bstr s), ni k, .bool bd] 73]) En49 Hv42 (fun hM50 => fail_go _ rb s k k bd hM50) ?_
   rintro _ wo51 ⟨rfl, he52⟩
   refine ⟨_, _, [.box rb [.string (bstr s), ni k, .bool true] 73], rfl, he52, by kernel_rfl, fun ac54 En55 Hv56 => ?_⟩
   refine f_e ?_
   refine then_normal ?_
   refine wp_seq ?_
   refine d_r [0,2,3] [] En55 fun ac57 En58 => ?_
   refine then_normal ?_
   refine wp_ret ?_
   refine then_ret ?_
   refine d_ret1 (t := 2) (v := .string (bstr [])) En58 (by kernel_rfl) (by kernel_rfl) ?_
   have hbf : bd = false := by simpa using (by assumption : ¬ bd = true)
   subst hbf
   have hno : wordB (List.take (runN (List.drop k s)) (List.drop k s)) = false := Bool.eq_false_iff.2 (by assumption)
   rw [show wdV false (List.drop k s) = [] from by rw [wdV, wdB, hno]; rfl, show wdB false (List.drop k s) = true from by rw [wdB, hno]; rfl]
   exact ⟨k, rfl, Hv56.pick [0] (by kernel_rfl) (by decide), (by omega), (fun h => by cases h)⟩
  ·
   replace hc45 : wordB (List.take (runN (List.drop k s)) (List.drop k s)) = true := by first | exact nb_t hc45 | exact nb_f hc45 | (simp at hc45; done) | (simp; done) | simpa using hc45
   refine wp_skip ?_
   refine then_normal ?_
   refine wp_seq ?_
   refine region_from ?_
   refine d_k [0,2,3,23,25] [] 3 En44 fun ac59 En60 => ?_
   refine f_o ?_
   refine m_l 0 En60 Hv42 fun ac61 En62 => ?_
   refine d_k [0,2,3,29,31] [(6, g_n (w_a k (ByteArray.size (bstr (List.take (runN (List.drop k s)) (List.drop k s))))))] 9 En62 fun ac63 En64 => ?_
   refine f_o ?_
   refine m_s 0 [.box rb [.string (bstr s), .int .i64 ((k + (ByteArray.size (bstr (List.take (runN (List.drop k s)) (List.drop k s)))) : Nat) : Int), .bool bd] 73] En64 Hv42 fun ac65 wo66 En67 Hv68 => ?_
   refine f_e ?_
   refine then_normal ?_
   refine wp_seq ?_
   refine d_r [0,2,3] [] En67 fun ac69 En70 => ?_
   refine then_normal ?_
   refine wp_ret ?_
   refine d_ret1 (t := 2) (v := .string (bstr (List.take (runN (List.drop k s)) (List.drop k s)))) En70 (by kernel_rfl) (by kernel_rfl) ?_
   have hbf : bd = false := by simpa using (by assumption : ¬ bd = true)
   subst hbf
   have hyes : wordB (List.take (runN (List.drop k s)) (List.drop k s)) = true := by assumption
   rw [show wdV false (List.drop k s) = List.take (runN (List.drop k s)) (List.drop k s) from by rw [wdV, wdB, hyes]; rfl, show wdB false (List.drop k s) = false from by rw [wdB, hyes]; rfl]
   exact ⟨(k + (ByteArray.size (bstr (List.take (runN (List.drop k s)) (List.drop k s))))), rfl, Hv68.pick [0] (by kernel_rfl) (by decide), (by omega), (fun _ => by omega)⟩

end Go.Proofs.YtfcfgbejpcmmkaaDoor
