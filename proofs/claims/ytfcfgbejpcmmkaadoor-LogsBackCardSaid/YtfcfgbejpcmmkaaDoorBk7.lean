import Derived.Test.YtfcfgbejpcmmkaaDoorBk6
import Derived.Test.YtfcfgbejpcmmkaaDoorBk4
/- Layer 3: the reader of lines: what stands behind a backslash. -/

namespace Go.Proofs.YtfcfgbejpcmmkaaDoor
open Go.Dbr
set_option maxRecDepth 100000
set_option maxHeartbeats 2000000
set_option linter.unusedVariables false
set_option linter.unusedSimpArgs false

/-- the number of the first digits -/
def hxN (s : Bs) (k : Nat) : Nat → Nat
  | 0 => 0
  | i + 1 => hxN s k i * 16 + (hxV (s.getD (k + 2 + i) 0)).toNat
theorem hx_2 (s : Bs) (k : Nat) : hxN s k 2 = hvN (List.drop (k + 1) s) := by
  rw [hvN, drop_getD, drop_getD]
  show (0 * 16 + (hxV (s.getD (k + 2 + 0) 0)).toNat) * 16 + (hxV (s.getD (k + 2 + 1) 0)).toNat = _
  rw [show k + 2 + 0 = k + 1 + 1 by omega, show k + 2 + 1 = k + 1 + 2 by omega]
  omega
theorem hx_lt (s : Bs) (k i : Nat) (h : i ≤ 1) : hxN s k i < 16 := by
  have h0 := hx_le (s.getD (k + 2 + 0) 0)
  match i, h with
  | 0, _ => show 0 < 16; decide
  | 1, _ => show 0 * 16 + (hxV (s.getD (k + 2 + 0) 0)).toNat < 16; omega
theorem getD_0 {r : Bs} (h : ¬ 0 < r.length) : List.getD r 0 0 = 0 := by cases r with | nil => rfl | cons c t => exact absurd (Nat.succ_pos _) h
theorem nat_of {x : Int} (h : 0 ≤ x) : x = ((Int.toNat x : Nat) : Int) := by omega
theorem escape_go (w : World) (rb : Nat) (s : Bs) (k : Nat) (hs : List.length s ≤ 1024) (hk : k + 1 ≤ List.length s) (hH : Heap w [.box rb [.string (bstr s), ni k, .bool false] 73]) : Calls Tryd.prog 68 #[pt rb] w fun e w' => ∃ p x, e = .returned (bv x) ∧ Ev w [.box rb [.string (bstr s), ni k, .bool false] 73] w' [.box rb [.string (bstr s), ni p, .bool (Option.isNone (rdEsc (List.drop (k + 1) s)))] 73] ∧ p ≤ List.length s ∧ (∀ y j, rdEsc (List.drop (k + 1) s) = some (y, j) → x = y ∧ p = k + 1 + j) := by
 refine d_0 [(0, pt rb)] 99 Go.Proofs.Tryd.func68 Go.Proofs.Tryd.ntmps68 (hH) fun act0 En0 Hv0 => ?_
 refine wp_seq ?_
 refine d_r [0,2] [] En0 fun ac1 En2 => ?_
 refine then_normal ?_
 refine wp_seq ?_
 refine region_from ?_
 refine d_k [0,2,10] [] 3 En2 fun ac3 En4 => ?_
 refine f_o ?_
 refine m_l 0 En4 Hv0 fun ac5 En6 => ?_
 refine d_e [0,2,3] [] En6 fun ac7 En8 => ?_
 refine then_normal ?_
 refine wp_seq ?_
 refine region_from ?_
 refine d_k [0,2,3,12,14] [] 3 En8 fun ac9 En10 => ?_
 refine f_o ?_
 refine m_l 0 En10 Hv0 fun ac11 En12 => ?_
 refine d_k [0,2,3,16,18] [(4, g_n (w_a k 1))] 7 En12 fun ac13 En14 => ?_
 refine f_o ?_
 refine m_s 0 [.box rb [.string (bstr s), .int .i64 ((k + 1 : Nat) : Int), .bool false] 73] En14 Hv0 fun ac15 wo16 En17 Hv18 => ?_
 refine f_e ?_
 refine then_normal ?_
 refine wp_seq ?_
 refine region_from ?_
 refine d_k [0,2,3,19] [] 1 En17 fun ac19 En20 => ?_
 refine f_o ?_
 refine c_l [0] (M := [.box rb [.string (bstr s), .int .i64 ((k + 1 : Nat) : Int), .bool false] 73]) En20 Hv18 (fun hM21 => rest_go _ rb s (k + 1) false hs (by omega) hM21) ?_
 rintro _ wo22 ⟨rfl, he23⟩
 refine ⟨_, _, [.box rb [.string (bstr s), .int .i64 ((k + 1 : Nat) : Int), .bool false] 73], rfl, he23, by kernel_rfl, fun ac25 En26 Hv27 => ?_⟩
 refine d_e [0,2,3,4] [] En26 fun ac28 En29 => ?_
 refine then_normal ?_
 refine wp_seq ?_
 refine wp_seq ?_
 have hdl : List.length (List.drop (k + 1) s) = List.length s - (k + 1) := List.length_drop
 have hgl : (List.drop (k + 1) s) ≠ [] → 0 < List.length (List.drop (k + 1) s) := fun h => List.length_pos_iff.2 h
 refine region_from ?_
 refine d_k [0,2,3,4,23] [(1, g_v (show (.bool (!(ByteArray.toList (bstr (List.drop (k + 1) s)) == ByteArray.toList (bstr []))) : Value) = .bool (decide (0 < List.length (List.drop (k + 1) s))) by rw [Go.Dbr.bstr_eq (List.drop (k + 1) s) [], ne0b (List.drop (k + 1) s)] <;> rfl))] 3 En29 fun ac30 En31 => ?_
 rcases Bool.eq_false_or_eq_true (decide (0 < List.length (List.drop (k + 1) s))) with hb32 | hb32
 ·
  have En33 := En31.fx (t := 23) (congrArg Value.bool hb32)
  have hp34 : 0 < List.length (List.drop (k + 1) s) := of_decide_eq_true hb32
  have hb35 : 0 < List.length (List.drop (k + 1) s) := by omega
  refine d_k [0,2,3,4,23,24] [] 4 En33 fun ac36 En37 => ?_
  refine f_o ?_
  refine q_v (x := Instr.index 9 (.string (bstr (List.drop (k + 1) s))) (.int .i64 0)) (v := .int .u8 ((UInt8.toNat (List.getD (List.drop (k + 1) s) 0 0) : Nat) : Int)) En37 (Go.Dbr.run_indexstr (s := (List.drop (k + 1) s)) (j := 0) (by kernel_rfl) (by omega) hb35 _) fun ac38 En39 => ?_
  refine d_k [0,2,3,4,23,27] [] 7 En39 fun ac40 En41 => ?_
  rcases Bool.eq_false_or_eq_true (((UInt8.toNat (List.getD (List.drop (k + 1) s) 0 0) : Nat) : Int) == (34 : Int)) with hb42 | hb42
  ·
   have En43 := En41.fx (t := 27) (congrArg Value.bool hb42)
   have hp44 : ((UInt8.toNat (List.getD (List.drop (k + 1) s) 0 0) : Nat) : Int) = (34 : Int) := eq_of_beq hb42
   refine d_e [0,2,3,4,32] [] En43 fun ac45 En46 => ?_
   refine then_normal ?_
   refine c_t En46 ?_
   refine wp_seq ?_
   refine region_from ?_
   refine d_k [0,2,3,4,33,35] [] 3 En46 fun ac47 En48 => ?_
   refine f_o ?_
   refine m_l 0 En48 Hv27 fun ac49 En50 => ?_
   refine d_k [0,2,3,4,37,39] [(4, g_n (w_a (k + 1) 1))] 7 En50 fun ac51 En52 => ?_
   refine f_o ?_
   refine m_s 0 [.box rb [.string (bstr s), .int .i64 (((k + 1) + 1 : Nat) : Int), .bool false] 73] En52 Hv27 fun ac53 wo54 En55 Hv56 => ?_
   refine f_e ?_
   refine then_normal ?_
   refine wp_seq ?_
   have hb57 : 0 < List.length (List.drop (k + 1) s) := by omega
   refine region_from ?_
   refine d_k [0,2,3,4,40] [] 1 En55 fun ac58 En59 => ?_
   refine f_o ?_
   refine q_v (x := Instr.index 9 (.string (bstr (List.drop (k + 1) s))) (.int .i64 0)) (v := .int .u8 ((UInt8.toNat (List.getD (List.drop (k + 1) s) 0 0) : Nat) : Int)) En59 (Go.Dbr.run_indexstr (s := (List.drop (k + 1) s)) (j := 0) (by kernel_rfl) (by omega) hb57 _) fun ac60 En61 => ?_
   refine d_e [0,2,3,4] [] En61 fun ac62 En63 => ?_
   refine then_normal ?_
   refine wp_ret ?_
   refine then_ret ?_
   refine d_ret1 (t := 2) (v := .int .u8 ((UInt8.toNat (List.getD (List.drop (k + 1) s) 0 0) : Nat) : Int)) En63 (by kernel_rfl) (by kernel_rfl) ?_
   rw [show rdEsc (List.drop (k + 1) s) = some (List.getD (List.drop (k + 1) s) 0 0, 1) from esc_1 (by omega) (by first | exact u8_34 (by assumption) | exact u8_92 (by assumption))]
   exact ⟨((k + 1) + 1), (List.getD (List.drop (k + 1) s) 0 0), rfl, Hv56.pick [0] (by kernel_rfl) (by decide), (by omega), (fun y j h => by cases h; exact ⟨rfl, by omega⟩)⟩
  ·
   have En64 := En41.fx (t := 27) (congrArg Value.bool hb42)
   have hp65 : ¬ (((UInt8.toNat (List.getD (List.drop (k + 1) s) 0 0) : Nat) : Int) = (34 : Int)) := ne_of_beq_false hb42
   have hb66 : 0 < List.length (List.drop (k + 1) s) := by omega
   refine d_k [0,2,3,4,23,27,28] [] 8 En64 fun ac67 En68 => ?_
   refine f_o ?_
   refine q_v (x := Instr.index 9 (.string (bstr (List.drop (k + 1) s))) (.int .i64 0)) (v := .int .u8 ((UInt8.toNat (List.getD (List.drop (k + 1) s) 0 0) : Nat) : Int)) En68 (Go.Dbr.run_indexstr (s := (List.drop (k + 1) s)) (j := 0) (by kernel_rfl) (by omega) hb66 _) fun ac69 En70 => ?_
   refine d_e [0,2,3,4,32] [] En70 fun ac71 En72 => ?_
   refine then_normal ?_
   refine c_e ((UInt8.toNat (List.getD (List.drop (k + 1) s) 0 0) : Nat) : Int) (92 : Int) En72 (fun hc73 => ?_) (fun hc73 => ?_)
   ·
    refine wp_seq ?_
    refine region_from ?_
    refine d_k [0,2,3,4,33,35] [] 3 En72 fun ac74 En75 => ?_
    refine f_o ?_
    refine m_l 0 En75 Hv27 fun ac76 En77 => ?_
    refine d_k [0,2,3,4,37,39] [(4, g_n (w_a (k + 1) 1))] 7 En77 fun ac78 En79 => ?_
    refine f_o ?_
    refine m_s 0 [.box rb [.string (bstr s), .int .i64 (((k + 1) + 1 : Nat) : Int), .bool false] 73] En79 Hv27 fun ac80 wo81 En82 Hv83 => ?_
    refine f_e ?_
    refine then_normal ?_
    refine wp_seq ?_
    have hb84 : 0 < List.length (List.drop (k + 1) s) := by omega
    refine region_from ?_
    refine d_k [0,2,3,4,40] [] 1 En82 fun ac85 En86 => ?_
    refine f_o ?_
    refine q_v (x := Instr.index 9 (.string (bstr (List.drop (k + 1) s))) (.int .i64 0)) (v := .int .u8 ((UInt8.toNat (List.getD (List.drop (k + 1) s) 0 0) : Nat) : Int)) En86 (Go.Dbr.run_indexstr (s := (List.drop (k + 1) s)) (j := 0) (by kernel_rfl) (by omega) hb84 _) fun ac87 En88 => ?_
    refine d_e [0,2,3,4] [] En88 fun ac89 En90 => ?_
    refine then_normal ?_
    refine wp_ret ?_
    refine then_ret ?_
    refine d_ret1 (t := 2) (v := .int .u8 ((UInt8.toNat (List.getD (List.drop (k + 1) s) 0 0) : Nat) : Int)) En90 (by kernel_rfl) (by kernel_rfl) ?_
    rw [show rdEsc (List.drop (k + 1) s) = some (List.getD (List.drop (k + 1) s) 0 0, 1) from esc_1 (by omega) (by first | exact u8_34 (by assumption) | exact u8_92 (by assumption))]
    exact ⟨((k + 1) + 1), (List.getD (List.drop (k + 1) s) 0 0), rfl, Hv83.pick [0] (by kernel_rfl) (by decide), (by omega), (fun y j h => by cases h; exact ⟨rfl, by omega⟩)⟩
   ·
    refine wp_skip ?_
    refine then_normal ?_
    refine wp_seq ?_
    refine region_from ?_
    refine d_k [0,2,3,4,42] [] 1 En72 fun ac91 En92 => ?_
    refine f_o ?_
    refine c_l [0] (M := [.box rb [.string (bstr s), .int .i64 ((k + 1 : Nat) : Int), .bool false] 73]) En92 Hv27 (fun hM96 => take_go _ rb s [120] (k + 1) false hs (by omega) hM96) ?_
    rintro _ wo97 ⟨p93, rfl, he98, hp94, hq95⟩
    refine ⟨_, _, [.box rb [.string (bstr s), ni p93, .bool (tkB false [120] (List.drop (k + 1) s))] 73], rfl, he98, by kernel_rfl, fun ac100 En101 Hv102 => ?_⟩
    refine f_e ?_
    refine then_normal ?_
    refine wp_seq ?_
    have hnq : ¬ (List.getD (List.drop (k + 1) s) 0 0 = 34 ∨ List.getD (List.drop (k + 1) s) 0 0 = 92) := by first | exact u8_n (by assumption) (by assumption) | (rw [getD_0 (by assumption)]; decide)
    cases hbx : tkB false [120] (List.drop (k + 1) s) with
    | false =>
     have hpe : p93 = k + 2 := hq95 hbx
     have Hv103 : Ev w [.box rb [.string (bstr s), ni k, .bool false] 73] wo97 [.box rb [.string (bstr s), .int .i64 ((k + 2 : Nat) : Int), .bool false] 73] := by have h := Hv102; rw [hbx, hpe] at h; exact h
     refine d_r [0,2,3,4,5] [] En101 fun ac104 En105 => ?_
     refine then_normal ?_
     refine wp_seq ?_
     refine wp_seq ?_
     refine d_r [0,2,3,4,5,6] [] En105 fun ac106 En107 => ?_
     refine then_normal ?_
     refine wp_block ?_
     refine loop_m (fun ms108 ac wo => ∃ (i : Nat) (v : Nat), ms108 = (2 - i : Nat) ∧ Env ac 99 [(0, pt rb), (3, ni k), (5, ni v), (6, ni i)] ∧ Ev w [.box rb [.string (bstr s), ni k, .bool false] 73] wo [.box rb [.string (bstr s), .int .i64 ((k + 2 + i : Nat) : Int), .bool false] 73] ∧ (i ≤ 2) ∧ (v = hxN s k i) ∧ (∀ t, t < i → 0 ≤ hxV (List.getD s (k + 2 + t) 0)) ∧ (k + 2 + i ≤ List.length s)) ⟨_, 0, 0, rfl, En107.sub (by kernel_rfl), Hv103.pick [0] (by kernel_rfl) (by decide), (Nat.zero_le _), rfl, (fun t ht => by omega), (by omega)⟩ ?_
     rintro mm114 ac110 wo111 ⟨i, v, rfl, En112, Hv113, hi, hv, hall, hki⟩
     refine wp_seq ?_
     refine wp_seq ?_
     refine region_from ?_
     refine d_k [0,3,5,6,46] [] 3 En112 fun ac115 En116 => ?_
     rcases Bool.eq_false_or_eq_true (decide (((i : Nat) : Int) < (2 : Int))) with hb117 | hb117
     ·
      have En118 := En116.fx (t := 46) (congrArg Value.bool hb117)
      have hp119 : ((i : Nat) : Int) < (2 : Int) := of_decide_eq_true hb117
      refine d_k [0,3,5,6,46,49] [] 6 En118 fun ac120 En121 => ?_
      refine f_o ?_
      refine m_l 0 En121 Hv113 fun ac122 En123 => ?_
      refine d_e [0,3,5,6,52] [] En123 fun ac124 En125 => ?_
      refine then_normal ?_
      refine c_t En125 ?_
      refine wp_skip ?_
      refine then_normal ?_
      refine wp_seq ?_
      refine wp_block ?_
      refine wp_seq ?_
      refine region_from ?_
      refine d_k [0,3,5,6,55] [] 1 En125 fun ac126 En127 => ?_
      refine f_o ?_
      refine c_l [0] (M := [.box rb [.string (bstr s), .int .i64 ((k + 2 + i : Nat) : Int), .bool false] 73]) En127 Hv113 (fun hM128 => rest_go _ rb s (k + 2 + i) false hs (by omega) hM128) ?_
      rintro _ wo129 ⟨rfl, he130⟩
      refine ⟨_, _, [.box rb [.string (bstr s), .int .i64 ((k + 2 + i : Nat) : Int), .bool false] 73], rfl, he130, by kernel_rfl, fun ac132 En133 Hv134 => ?_⟩
      refine d_e [0,3,4,5,6] [] En133 fun ac135 En136 => ?_
      refine then_normal ?_
      refine wp_seq ?_
      refine d_r [0,3,4,5,6,7] [] En136 fun ac137 En138 => ?_
      refine then_normal ?_
      refine wp_seq ?_
      refine wp_seq ?_
      have hgd : List.getD (List.drop (k + 2 + i) s) 0 0 = List.getD s (k + 2 + i) 0 := by rw [drop_getD, Nat.add_zero]
      have hdl2 : List.length (List.drop (k + 2 + i) s) = List.length s - (k + 2 + i) := List.length_drop
      refine d_r [0,3,4,5,6,7,58] [(1, g_v (show (.bool (!(ByteArray.toList (bstr (List.drop (k + 2 + i) s)) == ByteArray.toList (bstr []))) : Value) = .bool (decide (0 < List.length (List.drop (k + 2 + i) s))) by rw [Go.Dbr.bstr_eq (List.drop (k + 2 + i) s) [], ne0b (List.drop (k + 2 + i) s)] <;> rfl))] En138 fun ac139 En140 => ?_
      refine then_normal ?_
      refine c_d (0 < List.length (List.drop (k + 2 + i) s)) En140 (fun hc141 => ?_) (fun hc141 => ?_)
      ·
       have hb142 : 0 < List.length (List.drop (k + 2 + i) s) := by omega
       refine region_from ?_
       refine d_k [0,3,4,5,6,7,59] [] 1 En140 fun ac143 En144 => ?_
       refine f_o ?_
       refine q_v (x := Instr.index 9 (.string (bstr (List.drop (k + 2 + i) s))) (.int .i64 0)) (v := .int .u8 ((UInt8.toNat (List.getD (List.drop (k + 2 + i) s) 0 0) : Nat) : Int)) En144 (Go.Dbr.run_indexstr (s := (List.drop (k + 2 + i) s)) (j := 0) (by kernel_rfl) (by omega) hb142 _) fun ac145 En146 => ?_
       refine f_o ?_
       refine c_p En146 Hv134 (idx_go _ (List.getD (List.drop (k + 2 + i) s) 0 0)) fun ac151 wo148 En152 Hv153 => ?_
       refine d_e [0,3,4,5,6,7] [] En152 fun ac154 En155 => ?_
       refine then_normal ?_
       refine wp_seq ?_
       refine wp_seq ?_
       refine d_r [0,3,4,5,6,7,63] [] En155 fun ac156 En157 => ?_
       refine then_normal ?_
       refine c_d (hxV (List.getD (List.drop (k + 2 + i) s) 0 0) < (0 : Int)) En157 (fun hc158 => ?_) (fun hc158 => ?_)
       ·
        refine wp_seq ?_
        refine region_from ?_
        refine d_k [0,3,4,5,6,7,64,67] [] 4 En157 fun ac159 En160 => ?_
        refine f_o ?_
        refine m_l 0 En160 Hv153 fun ac161 En162 => ?_
        refine f_o ?_
        refine c_l [0] (M := [.box rb [.string (bstr s), .int .i64 ((k + 2 + i : Nat) : Int), .bool false] 73]) En162 Hv153 (fun hM163 => fail_go _ rb s (k + 2 + i) (k + 2 + i) false hM163) ?_
        rintro _ wo164 ⟨rfl, he165⟩
        refine ⟨_, _, [.box rb [.string (bstr s), .int .i64 ((k + 2 + i : Nat) : Int), .bool true] 73], rfl, he165, by kernel_rfl, fun ac167 En168 Hv169 => ?_⟩
        refine f_e ?_
        refine then_normal ?_
        refine wp_seq ?_
        refine d_r [0,2,3,4,5,6,7] [] En168 fun ac170 En171 => ?_
        refine then_normal ?_
        refine wp_ret ?_
        refine then_ret ?_
        refine block_ret ?_
        refine then_ret ?_
        refine then_ret ?_
        refine block_ret ?_
        refine then_ret ?_
        refine d_ret1 (t := 2) (v := .int .u8 0) En171 (by kernel_rfl) (by kernel_rfl) ?_
        have hno : rdEsc (List.drop (k + 1) s) = none := esc_n hnq (fun q => by
          have h3 : ∀ t, t < 2 → 0 ≤ hxV (List.getD s (k + 2 + t) 0) := fun t ht => by
            have e1 := q.2.2.1; have e2 := q.2.2.2.1; rw [drop_getD] at e1 e2
            rcases (show t = 0 ∨ t = 1 by omega) with rfl | rfl
            · rw [show k + 2 + 0 = k + 1 + 1 by omega]; exact e1
            · rw [show k + 2 + 1 = k + 1 + 2 by omega]; exact e2
          have h4 := q.2.1; have h5 := q.2.2.2.2; have h6 := hx_2 s k
          first | (have h7 := (x_pre (List.drop (k + 1) s)).2 ⟨by omega, q.1⟩; rw [tkB, h7] at hbx; cases hbx; done) | (have h8 := h3 i (by omega); rw [← hgd] at h8; omega) | omega | (rw [show i = 2 from by omega, h6] at hv; exact h5 (by omega)))
        rw [hno]
        exact ⟨(k + 2 + i), (0 : UInt8), rfl, Hv169.pick [0] (by kernel_rfl) (by decide), (by omega), (fun y j h => by cases h)⟩
       ·
        refine wp_skip ?_
        refine then_normal ?_
        refine wp_seq ?_
        have hvl := hx_lt s k i (by omega)
        have hxl := hx_le (List.getD (List.drop (k + 2 + i) s) 0 0)
        refine d_r [0,3,4,5,6,7] [(1, g_n (Go.Dbr.w_r (e := ((v : Nat) : Int) * 2 ^ 4) (x := ((v * 16 : Nat) : Int)) (by omega))), (2, g_i .i64 (nat_of (x := hxV (List.getD (List.drop (k + 2 + i) s) 0 0)) (by omega))), (3, g_i .i64 (Go.Dbr.i64_or_low (x := v) (y := Int.toNat (hxV (List.getD (List.drop (k + 2 + i) s) 0 0))) 4 (by omega) (by omega)))] En157 fun ac172 En173 => ?_
        refine then_normal ?_
        refine region_from ?_
        refine d_k [0,3,4,5,6,7,74,76] [] 3 En173 fun ac174 En175 => ?_
        refine f_o ?_
        refine m_l 0 En175 Hv153 fun ac176 En177 => ?_
        refine d_k [0,3,4,5,6,7,78,80] [(4, g_n (w_a (k + 2 + i) 1))] 7 En177 fun ac178 En179 => ?_
        refine f_o ?_
        refine m_s 0 [.box rb [.string (bstr s), .int .i64 (((k + 2 + i) + 1 : Nat) : Int), .bool false] 73] En179 Hv153 fun ac180 wo181 En182 Hv183 => ?_
        refine f_e ?_
        refine block_normal ?_
        refine then_normal ?_
        refine d_r [0,3,4,5,6,7] [(1, g_n (w_a i 1))] En182 fun ac184 En185 => ?_
        refine then_normal ?_
        refine ⟨_, ⟨i + 1, (v * 16 + (Int.toNat (hxV (List.getD (List.drop (k + 2 + i) s) 0 0)))), rfl, En185.sub (by kernel_rfl), Hv183.pick [0] (by kernel_rfl) (by decide), (by omega), (by rw [hv, hgd]; rfl), (fun t ht => (Nat.lt_succ_iff_lt_or_eq.1 ht).elim (hall t) (fun e => by rw [e, ← hgd]; omega)), (by omega)⟩, ?_⟩
        omega
      ·
       refine wp_skip ?_
       refine then_normal ?_
       refine wp_seq ?_
       refine wp_seq ?_
       refine d_r [0,3,4,5,6,7,63] [] En140 fun ac186 En187 => ?_
       refine then_normal ?_
       refine c_t En187 ?_
       refine wp_seq ?_
       refine region_from ?_
       refine d_k [0,3,4,5,6,7,64,67] [] 4 En187 fun ac188 En189 => ?_
       refine f_o ?_
       refine m_l 0 En189 Hv134 fun ac190 En191 => ?_
       refine f_o ?_
       refine c_l [0] (M := [.box rb [.string (bstr s), .int .i64 ((k + 2 + i : Nat) : Int), .bool false] 73]) En191 Hv134 (fun hM192 => fail_go _ rb s (k + 2 + i) (k + 2 + i) false hM192) ?_
       rintro _ wo193 ⟨rfl, he194⟩
       refine ⟨_, _, [.box rb [.string (bstr s), .int .i64 ((k + 2 + i : Nat) : Int), .bool true] 73], rfl, he194, by kernel_rfl, fun ac196 En197 Hv198 => ?_⟩
       refine f_e ?_
       refine then_normal ?_
       refine wp_seq ?_
       refine d_r [0,2,3,4,5,6,7] [] En197 fun ac199 En200 => ?_
       refine then_normal ?_
       refine wp_ret ?_
       refine then_ret ?_
       refine block_ret ?_
       refine then_ret ?_
       refine then_ret ?_
       refine block_ret ?_
       refine then_ret ?_
       refine d_ret1 (t := 2) (v := .int .u8 0) En200 (by kernel_rfl) (by kernel_rfl) ?_
       have hno : rdEsc (List.drop (k + 1) s) = none := esc_n hnq (fun q => by
         have h3 : ∀ t, t < 2 → 0 ≤ hxV (List.getD s (k + 2 + t) 0) := fun t ht => by
           have e1 := q.2.2.1; have e2 := q.2.2.2.1; rw [drop_getD] at e1 e2
           rcases (show t = 0 ∨ t = 1 by omega) with rfl | rfl
           · rw [show k + 2 + 0 = k + 1 + 1 by omega]; exact e1
           · rw [show k + 2 + 1 = k + 1 + 2 by omega]; exact e2
         have h4 := q.2.1; have h5 := q.2.2.2.2; have h6 := hx_2 s k
         first | (have h7 := (x_pre (List.drop (k + 1) s)).2 ⟨by omega, q.1⟩; rw [tkB, h7] at hbx; cases hbx; done) | (have h8 := h3 i (by omega); rw [← hgd] at h8; omega) | omega | (rw [show i = 2 from by omega, h6] at hv; exact h5 (by omega)))
       rw [hno]
       exact ⟨(k + 2 + i), (0 : UInt8), rfl, Hv198.pick [0] (by kernel_rfl) (by decide), (by omega), (fun y j h => by cases h)⟩
     ·
      have En201 := En116.fx (t := 46) (congrArg Value.bool hb117)
      have hp202 : ¬ (((i : Nat) : Int) < (2 : Int)) := of_decide_eq_false hb117
      refine d_e [0,3,5,6,52] [] En201 fun ac203 En204 => ?_
      refine then_normal ?_
      refine c_f En204 ?_
      refine wp_exit ?_
      refine then_exit ?_
      refine then_exit ?_
      refine block_exit ?_
      refine then_normal ?_
      refine wp_seq ?_
      refine wp_seq ?_
      refine region_from ?_
      refine d_k [0,3,5,6,83] [] 3 En204 fun ac205 En206 => ?_
      refine f_o ?_
      refine m_l 0 En206 Hv113 fun ac207 En208 => ?_
      refine d_k [0,3,5,6,90] [] 10 En208 fun ac209 En210 => ?_
      rcases Bool.eq_false_or_eq_true (decide (((v : Nat) : Int) ≥ (32 : Int))) with hb211 | hb211
      ·
       have En212 := En210.fx (t := 90) (congrArg Value.bool hb211)
       have hp213 : ((v : Nat) : Int) ≥ (32 : Int) := of_decide_eq_true hb211
       refine d_e [0,3,5,6,93] [] En212 fun ac214 En215 => ?_
       refine then_normal ?_
       refine c_d (((v : Nat) : Int) < (127 : Int)) En215 (fun hc216 => ?_) (fun hc216 => ?_)
       ·
        refine region_from ?_
        refine d_k [0,5,6,94,95] [] 2 En215 fun ac217 En218 => ?_
        refine f_o ?_
        refine c_l [0] (M := [.box rb [.string (bstr s), .int .i64 ((k + 2 + i : Nat) : Int), .bool false] 73]) En218 Hv113 (fun hM219 => fail_go _ rb s (k + 2 + i) k false hM219) ?_
        rintro _ wo220 ⟨rfl, he221⟩
        refine ⟨_, _, [.box rb [.string (bstr s), ni k, .bool true] 73], rfl, he221, by kernel_rfl, fun ac223 En224 Hv225 => ?_⟩
        refine f_e ?_
        refine then_normal ?_
        refine wp_seq ?_
        refine d_r [0,2,5,6] [(1, g_i .u8 (Go.Dbr.nat_to_u8 (a := ((v : Nat) : Int)) (n := v) rfl))] En224 fun ac226 En227 => ?_
        refine then_normal ?_
        refine wp_ret ?_
        refine d_ret1 (t := 2) (v := .int .u8 ((UInt8.toNat (UInt8.ofNat v) : Nat) : Int)) En227 (by kernel_rfl) (by kernel_rfl) ?_
        have hno : rdEsc (List.drop (k + 1) s) = none := esc_n hnq (fun q => by
          have h3 : ∀ t, t < 2 → 0 ≤ hxV (List.getD s (k + 2 + t) 0) := fun t ht => by
            have e1 := q.2.2.1; have e2 := q.2.2.2.1; rw [drop_getD] at e1 e2
            rcases (show t = 0 ∨ t = 1 by omega) with rfl | rfl
            · rw [show k + 2 + 0 = k + 1 + 1 by omega]; exact e1
            · rw [show k + 2 + 1 = k + 1 + 2 by omega]; exact e2
          have h4 := q.2.1; have h5 := q.2.2.2.2; have h6 := hx_2 s k
          first | (have h7 := (x_pre (List.drop (k + 1) s)).2 ⟨by omega, q.1⟩; rw [tkB, h7] at hbx; cases hbx; done) | (have h8 := h3 i (by omega); rw [← hgd] at h8; omega) | omega | (rw [show i = 2 from by omega, h6] at hv; exact h5 (by omega)))
        rw [hno]
        exact ⟨k, (UInt8.ofNat v), rfl, Hv225.pick [0] (by kernel_rfl) (by decide), (by omega), (fun y j h => by cases h)⟩
       ·
        refine wp_skip ?_
        refine then_normal ?_
        refine wp_seq ?_
        refine d_r [0,2,3,5,6] [(1, g_i .u8 (Go.Dbr.nat_to_u8 (a := ((v : Nat) : Int)) (n := v) rfl))] En215 fun ac228 En229 => ?_
        refine then_normal ?_
        refine wp_ret ?_
        refine d_ret1 (t := 2) (v := .int .u8 ((UInt8.toNat (UInt8.ofNat v) : Nat) : Int)) En229 (by kernel_rfl) (by kernel_rfl) ?_
        have hie : i = 2 := by omega
        have hv2 : v = hvN (List.drop (k + 1) s) := by rw [hv, hie, hx_2]
        have hyes : rdEsc (List.drop (k + 1) s) = some (UInt8.ofNat (hvN (List.drop (k + 1) s)), 3) := esc_3 hnq ⟨((x_pre _).1 (by first | (rw [tkB] at hbx; exact nb_f hbx) | (cases hz3 : List.isPrefixOf [120] (List.drop (k + 1) s) with | true => rfl | false => (rw [tkB, hz3] at hbx; cases hbx)))).2, (by omega), (by rw [drop_getD]; exact hall 0 (by omega)), (by rw [drop_getD]; exact hall 1 (by omega)), (by rw [← hv2]; omega)⟩
        rw [hyes, ← hv2]
        exact ⟨(k + 2 + i), (UInt8.ofNat v), rfl, Hv113.pick [0] (by kernel_rfl) (by decide), (by omega), (fun y j h => by cases h; exact ⟨rfl, by omega⟩)⟩
      ·
       have En230 := En210.fx (t := 90) (congrArg Value.bool hb211)
       have hp231 : ¬ (((v : Nat) : Int) ≥ (32 : Int)) := of_decide_eq_false hb211
       refine d_e [0,3,5,6,93] [] En230 fun ac232 En233 => ?_
       refine then_normal ?_
       refine c_f En233 ?_
       refine wp_skip ?_
       refine then_normal ?_
       refine wp_seq ?_
       refine d_r [0,2,3,5,6] [(1, g_i .u8 (Go.Dbr.nat_to_u8 (a := ((v : Nat) : Int)) (n := v) rfl))] En233 fun ac234 En235 => ?_
       refine then_normal ?_
       refine wp_ret ?_
       refine d_ret1 (t := 2) (v := .int .u8 ((UInt8.toNat (UInt8.ofNat v) : Nat) : Int)) En235 (by kernel_rfl) (by kernel_rfl) ?_
       have hie : i = 2 := by omega
       have hv2 : v = hvN (List.drop (k + 1) s) := by rw [hv, hie, hx_2]
       have hyes : rdEsc (List.drop (k + 1) s) = some (UInt8.ofNat (hvN (List.drop (k + 1) s)), 3) := esc_3 hnq ⟨((x_pre _).1 (by first | (rw [tkB] at hbx; exact nb_f hbx) | (cases hz3 : List.isPrefixOf [120] (List.drop (k + 1) s) with | true => rfl | false => (rw [tkB, hz3] at hbx; cases hbx)))).2, (by omega), (by rw [drop_getD]; exact hall 0 (by omega)), (by rw [drop_getD]; exact hall 1 (by omega)), (by rw [← hv2]; omega)⟩
       rw [hyes, ← hv2]
       exact ⟨(k + 2 + i), (UInt8.ofNat v), rfl, Hv113.pick [0] (by kernel_rfl) (by decide), (by omega), (fun y j h => by cases h; exact ⟨rfl, by omega⟩)⟩
    | true =>
     have Hv236 : Ev w [.box rb [.string (bstr s), ni k, .bool false] 73] wo97 [.box rb [.string (bstr s), ni p93, .bool true] 73] := by have h := Hv102; rw [hbx] at h; exact h
     refine d_r [0,2,3,4,5] [] En101 fun ac237 En238 => ?_
     refine then_normal ?_
     refine wp_seq ?_
     refine wp_seq ?_
     refine d_r [0,2,3,4,5,6] [] En238 fun ac239 En240 => ?_
     refine then_normal ?_
     refine wp_block ?_
     refine loop_m (fun ms241 ac wo => ∃ (i : Nat), ms241 = (1 - i : Nat) ∧ Env ac 99 [(0, pt rb), (3, ni k), (5, .int .i64 0), (6, ni i)] ∧ Ev w [.box rb [.string (bstr s), ni k, .bool false] 73] wo [.box rb [.string (bstr s), ni p93, .bool true] 73] ∧ (i = 0)) ⟨_, 0, rfl, En240.sub (by kernel_rfl), Hv236.pick [0] (by kernel_rfl) (by decide), rfl⟩ ?_
     rintro mm247 ac243 wo244 ⟨i, rfl, En245, Hv246, hi⟩
     refine wp_seq ?_
     refine wp_seq ?_
     refine region_from ?_
     refine d_k [0,3,5,6,46] [] 3 En245 fun ac248 En249 => ?_
     rcases Bool.eq_false_or_eq_true (decide (((i : Nat) : Int) < (2 : Int))) with hb250 | hb250
     ·
      have En251 := En249.fx (t := 46) (congrArg Value.bool hb250)
      have hp252 : ((i : Nat) : Int) < (2 : Int) := of_decide_eq_true hb250
      refine d_k [0,3,5,6,46,49] [] 6 En251 fun ac253 En254 => ?_
      refine f_o ?_
      refine m_l 0 En254 Hv246 fun ac255 En256 => ?_
      refine d_e [0,3,5,6,52] [] En256 fun ac257 En258 => ?_
      refine then_normal ?_
      refine c_f En258 ?_
      refine wp_exit ?_
      refine then_exit ?_
      refine then_exit ?_
      refine block_exit ?_
      refine then_normal ?_
      refine wp_seq ?_
      refine wp_seq ?_
      refine region_from ?_
      refine d_k [0,3,5,6,83] [] 3 En258 fun ac259 En260 => ?_
      refine f_o ?_
      refine m_l 0 En260 Hv246 fun ac261 En262 => ?_
      refine d_e [0,3,5,6,93] [] En262 fun ac263 En264 => ?_
      refine then_normal ?_
      refine c_f En264 ?_
      refine wp_skip ?_
      refine then_normal ?_
      refine wp_seq ?_
      refine d_r [0,2,3,5,6] [] En264 fun ac265 En266 => ?_
      refine then_normal ?_
      refine wp_ret ?_
      refine d_ret1 (t := 2) (v := .int .u8 0) En266 (by kernel_rfl) (by kernel_rfl) ?_
      have hno : rdEsc (List.drop (k + 1) s) = none := esc_n hnq (fun q => by
        have h3 : ∀ t, t < 2 → 0 ≤ hxV (List.getD s (k + 2 + t) 0) := fun t ht => by
          have e1 := q.2.2.1; have e2 := q.2.2.2.1; rw [drop_getD] at e1 e2
          rcases (show t = 0 ∨ t = 1 by omega) with rfl | rfl
          · rw [show k + 2 + 0 = k + 1 + 1 by omega]; exact e1
          · rw [show k + 2 + 1 = k + 1 + 2 by omega]; exact e2
        have h4 := q.2.1; have h5 := q.2.2.2.2; have h6 := hx_2 s k
        first | (have h7 := (x_pre (List.drop (k + 1) s)).2 ⟨by omega, q.1⟩; rw [tkB, h7] at hbx; cases hbx; done) | (have h8 := h3 i (by omega); rw [← hgd] at h8; omega) | omega | (rw [show i = 2 from by omega, h6] at hv; exact h5 (by omega)))
      rw [hno]
      exact ⟨p93, (0 : UInt8), rfl, Hv246.pick [0] (by kernel_rfl) (by decide), (by omega), (fun y j h => by cases h)⟩
     ·
      have En267 := En249.fx (t := 46) (congrArg Value.bool hb250)
      have hp268 : ¬ (((i : Nat) : Int) < (2 : Int)) := of_decide_eq_false hb250
      refine d_e [0,3,5,6,52] [] En267 fun ac269 En270 => ?_
      refine then_normal ?_
      refine c_f En270 ?_
      refine wp_exit ?_
      refine then_exit ?_
      refine then_exit ?_
      refine block_exit ?_
      refine then_normal ?_
      refine wp_seq ?_
      refine wp_seq ?_
      refine region_from ?_
      refine d_k [0,3,5,6,83] [] 3 En270 fun ac271 En272 => ?_
      refine f_o ?_
      refine m_l 0 En272 Hv246 fun ac273 En274 => ?_
      refine d_e [0,3,5,6,93] [] En274 fun ac275 En276 => ?_
      refine then_normal ?_
      refine c_f En276 ?_
      refine wp_skip ?_
      refine then_normal ?_
      refine wp_seq ?_
      refine d_r [0,2,3,5,6] [] En276 fun ac277 En278 => ?_
      refine then_normal ?_
      refine wp_ret ?_
      refine d_ret1 (t := 2) (v := .int .u8 0) En278 (by kernel_rfl) (by kernel_rfl) ?_
      have hno : rdEsc (List.drop (k + 1) s) = none := esc_n hnq (fun q => by
        have h3 : ∀ t, t < 2 → 0 ≤ hxV (List.getD s (k + 2 + t) 0) := fun t ht => by
          have e1 := q.2.2.1; have e2 := q.2.2.2.1; rw [drop_getD] at e1 e2
          rcases (show t = 0 ∨ t = 1 by omega) with rfl | rfl
          · rw [show k + 2 + 0 = k + 1 + 1 by omega]; exact e1
          · rw [show k + 2 + 1 = k + 1 + 2 by omega]; exact e2
        have h4 := q.2.1; have h5 := q.2.2.2.2; have h6 := hx_2 s k
        first | (have h7 := (x_pre (List.drop (k + 1) s)).2 ⟨by omega, q.1⟩; rw [tkB, h7] at hbx; cases hbx; done) | (have h8 := h3 i (by omega); rw [← hgd] at h8; omega) | omega | (rw [show i = 2 from by omega, h6] at hv; exact h5 (by omega)))
      rw [hno]
      exact ⟨p93, (0 : UInt8), rfl, Hv246.pick [0] (by kernel_rfl) (by decide), (by omega), (fun y j h => by cases h)⟩
 ·
  have En279 := En31.fx (t := 23) (congrArg Value.bool hb32)
  have hp280 : ¬ (0 < List.length (List.drop (k + 1) s)) := of_decide_eq_false hb32
  refine d_e [0,2,3,4,32] [] En279 fun ac281 En282 => ?_
  refine then_normal ?_
  refine c_f En282 ?_
  refine wp_skip ?_
  refine then_normal ?_
  refine wp_seq ?_
  refine region_from ?_
  refine d_k [0,2,3,4,42] [] 1 En282 fun ac283 En284 => ?_
  refine f_o ?_
  refine c_l [0] (M := [.box rb [.string (bstr s), .int .i64 ((k + 1 : Nat) : Int), .bool false] 73]) En284 Hv27 (fun hM288 => take_go _ rb s [120] (k + 1) false hs (by omega) hM288) ?_
  rintro _ wo289 ⟨p285, rfl, he290, hp286, hq287⟩
  refine ⟨_, _, [.box rb [.string (bstr s), ni p285, .bool (tkB false [120] (List.drop (k + 1) s))] 73], rfl, he290, by kernel_rfl, fun ac292 En293 Hv294 => ?_⟩
  refine f_e ?_
  refine then_normal ?_
  refine wp_seq ?_
  have hnq : ¬ (List.getD (List.drop (k + 1) s) 0 0 = 34 ∨ List.getD (List.drop (k + 1) s) 0 0 = 92) := by first | exact u8_n (by assumption) (by assumption) | (rw [getD_0 (by assumption)]; decide)
  cases hbx : tkB false [120] (List.drop (k + 1) s) with
  | false =>
   have hpe : p285 = k + 2 := hq287 hbx
   have Hv295 : Ev w [.box rb [.string (bstr s), ni k, .bool false] 73] wo289 [.box rb [.string (bstr s), .int .i64 ((k + 2 : Nat) : Int), .bool false] 73] := by have h := Hv294; rw [hbx, hpe] at h; exact h
   refine d_r [0,2,3,4,5] [] En293 fun ac296 En297 => ?_
   refine then_normal ?_
   refine wp_seq ?_
   refine wp_seq ?_
   refine d_r [0,2,3,4,5,6] [] En297 fun ac298 En299 => ?_
   refine then_normal ?_
   refine wp_block ?_
   refine loop_m (fun ms300 ac wo => ∃ (i : Nat) (v : Nat), ms300 = (2 - i : Nat) ∧ Env ac 99 [(0, pt rb), (3, ni k), (5, ni v), (6, ni i)] ∧ Ev w [.box rb [.string (bstr s), ni k, .bool false] 73] wo [.box rb [.string (bstr s), .int .i64 ((k + 2 + i : Nat) : Int), .bool false] 73] ∧ (i ≤ 2) ∧ (v = hxN s k i) ∧ (∀ t, t < i → 0 ≤ hxV (List.getD s (k + 2 + t) 0)) ∧ (k + 2 + i ≤ List.length s)) ⟨_, 0, 0, rfl, En299.sub (by kernel_rfl), Hv295.pick [0] (by kernel_rfl) (by decide), (Nat.zero_le _), rfl, (fun t ht => by omega), (by omega)⟩ ?_
   rintro mm306 ac302 wo303 ⟨i, v, rfl, En304, Hv305, hi, hv, hall, hki⟩
   refine wp_seq ?_
   refine wp_seq ?_
   refine region_from ?_
   refine d_k [0,3,5,6,46] [] 3 En304 fun ac307 En308 => ?_
   rcases Bool.eq_false_or_eq_true (decide (((i : Nat) : Int) < (2 : Int))) with hb309 | hb309
   ·
    have En310 := En308.fx (t := 46) (congrArg Value.bool hb309)
    have hp311 : ((i : Nat) : Int) < (2 : Int) := of_decide_eq_true hb309
    refine d_k [0,3,5,6,46,49] [] 6 En310 fun ac312 En313 => ?_
    refine f_o ?_
    refine m_l 0 En313 Hv305 fun ac314 En315 => ?_
    refine d_e [0,3,5,6,52] [] En315 fun ac316 En317 => ?_
    refine then_normal ?_
    refine c_t En317 ?_
    refine wp_skip ?_
    refine then_normal ?_
    refine wp_seq ?_
    refine wp_block ?_
    refine wp_seq ?_
    refine region_from ?_
    refine d_k [0,3,5,6,55] [] 1 En317 fun ac318 En319 => ?_
    refine f_o ?_
    refine c_l [0] (M := [.box rb [.string (bstr s), .int .i64 ((k + 2 + i : Nat) : Int), .bool false] 73]) En319 Hv305 (fun hM320 => rest_go _ rb s (k + 2 + i) false hs (by omega) hM320) ?_
    rintro _ wo321 ⟨rfl, he322⟩
    refine ⟨_, _, [.box rb [.string (bstr s), .int .i64 ((k + 2 + i : Nat) : Int), .bool false] 73], rfl, he322, by kernel_rfl, fun ac324 En325 Hv326 => ?_⟩
    refine d_e [0,3,4,5,6] [] En325 fun ac327 En328 => ?_
    refine then_normal ?_
    refine wp_seq ?_
    refine d_r [0,3,4,5,6,7] [] En328 fun ac329 En330 => ?_
    refine then_normal ?_
    refine wp_seq ?_
    refine wp_seq ?_
    have hgd : List.getD (List.drop (k + 2 + i) s) 0 0 = List.getD s (k + 2 + i) 0 := by rw [drop_getD, Nat.add_zero]
    have hdl2 : List.length (List.drop (k + 2 + i) s) = List.length s - (k + 2 + i) := List.length_drop
    refine d_r [0,3,4,5,6,7,58] [(1, g_v (show (.bool (!(ByteArray.toList (bstr (List.drop (k + 2 + i) s)) == ByteArray.toList (bstr []))) : Value) = .bool (decide (0 < List.length (List.drop (k + 2 + i) s))) by rw [Go.Dbr.bstr_eq (List.drop (k + 2 + i) s) [], ne0b (List.drop (k + 2 + i) s)] <;> rfl))] En330 fun ac331 En332 => ?_
    refine then_normal ?_
    refine c_d (0 < List.length (List.drop (k + 2 + i) s)) En332 (fun hc333 => ?_) (fun hc333 => ?_)
    ·
     have hb334 : 0 < List.length (List.drop (k + 2 + i) s) := by omega
     refine region_from ?_
     refine d_k [0,3,4,5,6,7,59] [] 1 En332 fun ac335 En336 => ?_
     refine f_o ?_
     refine q_v (x := Instr.index 9 (.string (bstr (List.drop (k + 2 + i) s))) (.int .i64 0)) (v := .int .u8 ((UInt8.toNat (List.getD (List.drop (k + 2 + i) s) 0 0) : Nat) : Int)) En336 (Go.Dbr.run_indexstr (s := (List.drop (k + 2 + i) s)) (j := 0) (by kernel_rfl) (by omega) hb334 _) fun ac337 En338 => ?_
     refine f_o ?_
     refine c_p En338 Hv326 (idx_go _ (List.getD (List.drop (k + 2 + i) s) 0 0)) fun ac343 wo340 En344 Hv345 => ?_
     refine d_e [0,3,4,5,6,7] [] En344 fun ac346 En347 => ?_
     refine then_normal ?_
     refine wp_seq ?_
     refine wp_seq ?_
     refine d_r [0,3,4,5,6,7,63] [] En347 fun ac348 En349 => ?_
     refine then_normal ?_
     refine c_d (hxV (List.getD (List.drop (k + 2 + i) s) 0 0) < (0 : Int)) En349 (fun hc350 => ?_) (fun hc350 => ?_)
     ·
      refine wp_seq ?_
      refine region_from ?_
      refine d_k [0,3,4,5,6,7,64,67] [] 4 En349 fun ac351 En352 => ?_
      refine f_o ?_
      refine m_l 0 En352 Hv345 fun ac353 En354 => ?_
      refine f_o ?_
      refine c_l [0] (M := [.box rb [.string (bstr s), .int .i64 ((k + 2 + i : Nat) : Int), .bool false] 73]) En354 Hv345 (fun hM355 => fail_go _ rb s (k + 2 + i) (k + 2 + i) false hM355) ?_
      rintro _ wo356 ⟨rfl, he357⟩
      refine ⟨_, _, [.box rb [.string (bstr s), .int .i64 ((k + 2 + i : Nat) : Int), .bool true] 73], rfl, he357, by kernel_rfl, fun ac359 En360 Hv361 => ?_⟩
      refine f_e ?_
      refine then_normal ?_
      refine wp_seq ?_
      refine d_r [0,2,3,4,5,6,7] [] En360 fun ac362 En363 => ?_
      refine then_normal ?_
      refine wp_ret ?_
      refine then_ret ?_
      refine block_ret ?_
      refine then_ret ?_
      refine then_ret ?_
      refine block_ret ?_
      refine then_ret ?_
      refine d_ret1 (t := 2) (v := .int .u8 0) En363 (by kernel_rfl) (by kernel_rfl) ?_
      have hno : rdEsc (List.drop (k + 1) s) = none := esc_n hnq (fun q => by
        have h3 : ∀ t, t < 2 → 0 ≤ hxV (List.getD s (k + 2 + t) 0) := fun t ht => by
          have e1 := q.2.2.1; have e2 := q.2.2.2.1; rw [drop_getD] at e1 e2
          rcases (show t = 0 ∨ t = 1 by omega) with rfl | rfl
          · rw [show k + 2 + 0 = k + 1 + 1 by omega]; exact e1
          · rw [show k + 2 + 1 = k + 1 + 2 by omega]; exact e2
        have h4 := q.2.1; have h5 := q.2.2.2.2; have h6 := hx_2 s k
        first | (have h7 := (x_pre (List.drop (k + 1) s)).2 ⟨by omega, q.1⟩; rw [tkB, h7] at hbx; cases hbx; done) | (have h8 := h3 i (by omega); rw [← hgd] at h8; omega) | omega | (rw [show i = 2 from by omega, h6] at hv; exact h5 (by omega)))
      rw [hno]
      exact ⟨(k + 2 + i), (0 : UInt8), rfl, Hv361.pick [0] (by kernel_rfl) (by decide), (by omega), (fun y j h => by cases h)⟩
     ·
      refine wp_skip ?_
      refine then_normal ?_
      refine wp_seq ?_
      have hvl := hx_lt s k i (by omega)
      have hxl := hx_le (List.getD (List.drop (k + 2 + i) s) 0 0)
      refine d_r [0,3,4,5,6,7] [(1, g_n (Go.Dbr.w_r (e := ((v : Nat) : Int) * 2 ^ 4) (x := ((v * 16 : Nat) : Int)) (by omega))), (2, g_i .i64 (nat_of (x := hxV (List.getD (List.drop (k + 2 + i) s) 0 0)) (by omega))), (3, g_i .i64 (Go.Dbr.i64_or_low (x := v) (y := Int.toNat (hxV (List.getD (List.drop (k + 2 + i) s) 0 0))) 4 (by omega) (by omega)))] En349 fun ac364 En365 => ?_
      refine then_normal ?_
      refine region_from ?_
      refine d_k [0,3,4,5,6,7,74,76] [] 3 En365 fun ac366 En367 => ?_
      refine f_o ?_
      refine m_l 0 En367 Hv345 fun ac368 En369 => ?_
      refine d_k [0,3,4,5,6,7,78,80] [(4, g_n (w_a (k + 2 + i) 1))] 7 En369 fun ac370 En371 => ?_
      refine f_o ?_
      refine m_s 0 [.box rb [.string (bstr s), .int .i64 (((k + 2 + i) + 1 : Nat) : Int), .bool false] 73] En371 Hv345 fun ac372 wo373 En374 Hv375 => ?_
      refine f_e ?_
      refine block_normal ?_
      refine then_normal ?_
      refine d_r [0,3,4,5,6,7] [(1, g_n (w_a i 1))] En374 fun ac376 En377 => ?_
      refine then_normal ?_
      refine ⟨_, ⟨i + 1, (v * 16 + (Int.toNat (hxV (List.getD (List.drop (k + 2 + i) s) 0 0)))), rfl, En377.sub (by kernel_rfl), Hv375.pick [0] (by kernel_rfl) (by decide), (by omega), (by rw [hv, hgd]; rfl), (fun t ht => (Nat.lt_succ_iff_lt_or_eq.1 ht).elim (hall t) (fun e => by rw [e, ← hgd]; omega)), (by omega)⟩, ?_⟩
      omega
    ·
     refine wp_skip ?_
     refine then_normal ?_
     refine wp_seq ?_
     refine wp_seq ?_
     refine d_r [0,3,4,5,6,7,63] [] En332 fun ac378 En379 => ?_
     refine then_normal ?_
     refine c_t En379 ?_
     refine wp_seq ?_
     refine region_from ?_
     refine d_k [0,3,4,5,6,7,64,67] [] 4 En379 fun ac380 En381 => ?_
     refine f_o ?_
     refine m_l 0 En381 Hv326 fun ac382 En383 => ?_
     refine f_o ?_
     refine c_l [0] (M := [.box rb [.string (bstr s), .int .i64 ((k + 2 + i : Nat) : Int), .bool false] 73]) En383 Hv326 (fun hM384 => fail_go _ rb s (k + 2 + i) (k + 2 + i) false hM384) ?_
     rintro _ wo385 ⟨rfl, he386⟩
     refine ⟨_, _, [.box rb [.string (bstr s), .int .i64 ((k + 2 + i : Nat) : Int), .bool true] 73], rfl, he386, by kernel_rfl, fun ac388 En389 Hv390 => ?_⟩
     refine f_e ?_
     refine then_normal ?_
     refine wp_seq ?_
     refine d_r [0,2,3,4,5,6,7] [] En389 fun ac391 En392 => ?_
     refine then_normal ?_
     refine wp_ret ?_
     refine then_ret ?_
     refine block_ret ?_
     refine then_ret ?_
     refine then_ret ?_
     refine block_ret ?_
     refine then_ret ?_
     refine d_ret1 (t := 2) (v := .int .u8 0) En392 (by kernel_rfl) (by kernel_rfl) ?_
     have hno : rdEsc (List.drop (k + 1) s) = none := esc_n hnq (fun q => by
       have h3 : ∀ t, t < 2 → 0 ≤ hxV (List.getD s (k + 2 + t) 0) := fun t ht => by
         have e1 := q.2.2.1; have e2 := q.2.2.2.1; rw [drop_getD] at e1 e2
         rcases (show t = 0 ∨ t = 1 by omega) with rfl | rfl
         · rw [show k + 2 + 0 = k + 1 + 1 by omega]; exact e1
         · rw [show k + 2 + 1 = k + 1 + 2 by omega]; exact e2
       have h4 := q.2.1; have h5 := q.2.2.2.2; have h6 := hx_2 s k
       first | (have h7 := (x_pre (List.drop (k + 1) s)).2 ⟨by omega, q.1⟩; rw [tkB, h7] at hbx; cases hbx; done) | (have h8 := h3 i (by omega); rw [← hgd] at h8; omega) | omega | (rw [show i = 2 from by omega, h6] at hv; exact h5 (by omega)))
     rw [hno]
     exact ⟨(k + 2 + i), (0 : UInt8), rfl, Hv390.pick [0] (by kernel_rfl) (by decide), (by omega), (fun y j h => by cases h)⟩
   ·
    have En393 := En308.fx (t := 46) (congrArg Value.bool hb309)
    have hp394 : ¬ (((i : Nat) : Int) < (2 : Int)) := of_decide_eq_false hb309
    refine d_e [0,3,5,6,52] [] En393 fun ac395 En396 => ?_
    refine then_normal ?_
    refine c_f En396 ?_
    refine wp_exit ?_
    refine then_exit ?_
    refine then_exit ?_
    refine block_exit ?_
    refine then_normal ?_
    refine wp_seq ?_
    refine wp_seq ?_
    refine region_from ?_
    refine d_k [0,3,5,6,83] [] 3 En396 fun ac397 En398 => ?_
    refine f_o ?_
    refine m_l 0 En398 Hv305 fun ac399 En400 => ?_
    refine d_k [0,3,5,6,90] [] 10 En400 fun ac401 En402 => ?_
    rcases Bool.eq_false_or_eq_true (decide (((v : Nat) : Int) ≥ (32 : Int))) with hb403 | hb403
    ·
     have En404 := En402.fx (t := 90) (congrArg Value.bool hb403)
     have hp405 : ((v : Nat) : Int) ≥ (32 : Int) := of_decide_eq_true hb403
     refine d_e [0,3,5,6,93] [] En404 fun ac406 En407 => ?_
     refine then_normal ?_
     refine c_d (((v : Nat) : Int) < (127 : Int)) En407 (fun hc408 => ?_) (fun hc408 => ?_)
     ·
      refine region_from ?_
      refine d_k [0,5,6,94,95] [] 2 En407 fun ac409 En410 => ?_
      refine f_o ?_
      refine c_l [0] (M := [.box rb [.string (bstr s), .int .i64 ((k + 2 + i : Nat) : Int), .bool false] 73]) En410 Hv305 (fun hM411 => fail_go _ rb s (k + 2 + i) k false hM411) ?_
      rintro _ wo412 ⟨rfl, he413⟩
      refine ⟨_, _, [.box rb [.string (bstr s), ni k, .bool true] 73], rfl, he413, by kernel_rfl, fun ac415 En416 Hv417 => ?_⟩
      refine f_e ?_
      refine then_normal ?_
      refine wp_seq ?_
      refine d_r [0,2,5,6] [(1, g_i .u8 (Go.Dbr.nat_to_u8 (a := ((v : Nat) : Int)) (n := v) rfl))] En416 fun ac418 En419 => ?_
      refine then_normal ?_
      refine wp_ret ?_
      refine d_ret1 (t := 2) (v := .int .u8 ((UInt8.toNat (UInt8.ofNat v) : Nat) : Int)) En419 (by kernel_rfl) (by kernel_rfl) ?_
      have hno : rdEsc (List.drop (k + 1) s) = none := esc_n hnq (fun q => by
        have h3 : ∀ t, t < 2 → 0 ≤ hxV (List.getD s (k + 2 + t) 0) := fun t ht => by
          have e1 := q.2.2.1; have e2 := q.2.2.2.1; rw [drop_getD] at e1 e2
          rcases (show t = 0 ∨ t = 1 by omega) with rfl | rfl
          · rw [show k + 2 + 0 = k + 1 + 1 by omega]; exact e1
          · rw [show k + 2 + 1 = k + 1 + 2 by omega]; exact e2
        have h4 := q.2.1; have h5 := q.2.2.2.2; have h6 := hx_2 s k
        first | (have h7 := (x_pre (List.drop (k + 1) s)).2 ⟨by omega, q.1⟩; rw [tkB, h7] at hbx; cases hbx; done) | (have h8 := h3 i (by omega); rw [← hgd] at h8; omega) | omega | (rw [show i = 2 from by omega, h6] at hv; exact h5 (by omega)))
      rw [hno]
      exact ⟨k, (UInt8.ofNat v), rfl, Hv417.pick [0] (by kernel_rfl) (by decide), (by omega), (fun y j h => by cases h)⟩
     ·
      refine wp_skip ?_
      refine then_normal ?_
      refine wp_seq ?_
      refine d_r [0,2,3,5,6] [(1, g_i .u8 (Go.Dbr.nat_to_u8 (a := ((v : Nat) : Int)) (n := v) rfl))] En407 fun ac420 En421 => ?_
      refine then_normal ?_
      refine wp_ret ?_
      refine d_ret1 (t := 2) (v := .int .u8 ((UInt8.toNat (UInt8.ofNat v) : Nat) : Int)) En421 (by kernel_rfl) (by kernel_rfl) ?_
      have hie : i = 2 := by omega
      have hv2 : v = hvN (List.drop (k + 1) s) := by rw [hv, hie, hx_2]
      have hyes : rdEsc (List.drop (k + 1) s) = some (UInt8.ofNat (hvN (List.drop (k + 1) s)), 3) := esc_3 hnq ⟨((x_pre _).1 (by first | (rw [tkB] at hbx; exact nb_f hbx) | (cases hz3 : List.isPrefixOf [120] (List.drop (k + 1) s) with | true => rfl | false => (rw [tkB, hz3] at hbx; cases hbx)))).2, (by omega), (by rw [drop_getD]; exact hall 0 (by omega)), (by rw [drop_getD]; exact hall 1 (by omega)), (by rw [← hv2]; omega)⟩
      rw [hyes, ← hv2]
      exact ⟨(k + 2 + i), (UInt8.ofNat v), rfl, Hv305.pick [0] (by kernel_rfl) (by decide), (by omega), (fun y j h => by cases h; exact ⟨rfl, by omega⟩)⟩
    ·
     have En422 := En402.fx (t := 90) (congrArg Value.bool hb403)
     have hp423 : ¬ (((v : Nat) : Int) ≥ (32 : Int)) := of_decide_eq_false hb403
     refine d_e [0,3,5,6,93] [] En422 fun ac424 En425 => ?_
     refine then_normal ?_
     refine c_f En425 ?_
     refine wp_skip ?_
     refine then_normal ?_
     refine wp_seq ?_
     refine d_r [0,2,3,5,6] [(1, g_i .u8 (Go.Dbr.nat_to_u8 (a := ((v : Nat) : Int)) (n := v) rfl))] En425 fun ac426 En427 => ?_
     refine then_normal ?_
     refine wp_ret ?_
     refine d_ret1 (t := 2) (v := .int .u8 ((UInt8.toNat (UInt8.ofNat v) : Nat) : Int)) En427 (by kernel_rfl) (by kernel_rfl) ?_
     have hie : i = 2 := by omega
     have hv2 : v = hvN (List.drop (k + 1) s) := by rw [hv, hie, hx_2]
     have hyes : rdEsc (List.drop (k + 1) s) = some (UInt8.ofNat (hvN (List.drop (k + 1) s)), 3) := esc_3 hnq ⟨((x_pre _).1 (by first | (rw [tkB] at hbx; exact nb_f hbx) | (cases hz3 : List.isPrefixOf [120] (List.drop (k + 1) s) with | true => rfl | false => (rw [tkB, hz3] at hbx; cases hbx)))).2, (by omega), (by rw [drop_getD]; exact hall 0 (by omega)), (by rw [drop_getD]; exact hall 1 (by omega)), (by rw [← hv2]; omega)⟩
     rw [hyes, ← hv2]
     exact ⟨(k + 2 + i), (UInt8.ofNat v), rfl, Hv305.pick [0] (by kernel_rfl) (by decide), (by omega), (fun y j h => by cases h; exact ⟨rfl, by omega⟩)⟩
  | true =>
   have Hv428 : Ev w [.box rb [.string (bstr s), ni k, .bool false] 73] wo289 [.box rb [.string (bstr s), ni p285, .bool true] 73] := by have h := Hv294; rw [hbx] at h; exact h
   refine d_r [0,2,3,4,5] [] En293 fun ac429 En430 => ?_
   refine then_normal ?_
   refine wp_seq ?_
   refine wp_seq ?_
   refine d_r [0,2,3,4,5,6] [] En430 fun ac431 En432 => ?_
   refine then_normal ?_
   refine wp_block ?_
   refine loop_m (fun ms433 ac wo => ∃ (i : Nat), ms433 = (1 - i : Nat) ∧ Env ac 99 [(0, pt rb), (3, ni k), (5, .int .i64 0), (6, ni i)] ∧ Ev w [.box rb [.string (bstr s), ni k, .bool false] 73] wo [.box rb [.string (bstr s), ni p285, .bool true] 73] ∧ (i = 0)) ⟨_, 0, rfl, En432.sub (by kernel_rfl), Hv428.pick [0] (by kernel_rfl) (by decide), rfl⟩ ?_
   rintro mm439 ac435 wo436 ⟨i, rfl, En437, Hv438, hi⟩
   refine wp_seq ?_
   refine wp_seq ?_
   refine region_from ?_
   refine d_k [0,3,5,6,46] [] 3 En437 fun ac440 En441 => ?_
   rcases Bool.eq_false_or_eq_true (decide (((i : Nat) : Int) < (2 : Int))) with hb442 | hb442
   ·
    have En443 := En441.fx (t := 46) (congrArg Value.bool hb442)
    have hp444 : ((i : Nat) : Int) < (2 : Int) := of_decide_eq_true hb442
    refine d_k [0,3,5,6,46,49] [] 6 En443 fun ac445 En446 => ?_
    refine f_o ?_
    refine m_l 0 En446 Hv438 fun ac447 En448 => ?_
    refine d_e [0,3,5,6,52] [] En448 fun ac449 En450 => ?_
    refine then_normal ?_
    refine c_f En450 ?_
    refine wp_exit ?_
    refine then_exit ?_
    refine then_exit ?_
    refine block_exit ?_
    refine then_normal ?_
    refine wp_seq ?_
    refine wp_seq ?_
    refine region_from ?_
    refine d_k [0,3,5,6,83] [] 3 En450 fun ac451 En452 => ?_
    refine f_o ?_
    refine m_l 0 En452 Hv438 fun ac453 En454 => ?_
    refine d_e [0,3,5,6,93] [] En454 fun ac455 En456 => ?_
    refine then_normal ?_
    refine c_f En456 ?_
    refine wp_skip ?_
    refine then_normal ?_
    refine wp_seq ?_
    refine d_r [0,2,3,5,6] [] En456 fun ac457 En458 => ?_
    refine then_normal ?_
    refine wp_ret ?_
    refine d_ret1 (t := 2) (v := .int .u8 0) En458 (by kernel_rfl) (by kernel_rfl) ?_
    have hno : rdEsc (List.drop (k + 1) s) = none := esc_n hnq (fun q => by
      have h3 : ∀ t, t < 2 → 0 ≤ hxV (List.getD s (k + 2 + t) 0) := fun t ht => by
        have e1 := q.2.2.1; have e2 := q.2.2.2.1; rw [drop_getD] at e1 e2
        rcases (show t = 0 ∨ t = 1 by omega) with rfl | rfl
        · rw [show k + 2 + 0 = k + 1 + 1 by omega]; exact e1
        · rw [show k + 2 + 1 = k + 1 + 2 by omega]; exact e2
      have h4 := q.2.1; have h5 := q.2.2.2.2; have h6 := hx_2 s k
      first | (have h7 := (x_pre (List.drop (k + 1) s)).2 ⟨by omega, q.1⟩; rw [tkB, h7] at hbx; cases hbx; done) | (have h8 := h3 i (by omega); rw [← hgd] at h8; omega) | omega | (rw [show i = 2 from by omega, h6] at hv; exact h5 (by omega)))
    rw [hno]
    exact ⟨p285, (0 : UInt8), rfl, Hv438.pick [0] (by kernel_rfl) (by decide), (by omega), (fun y j h => by cases h)⟩
   ·
    have En459 := En441.fx (t := 46) (congrArg Value.bool hb442)
    have hp460 : ¬ (((i : Nat) : Int) < (2 : Int)) := of_decide_eq_false hb442
    refine d_e [0,3,5,6,52] [] En459 fun ac461 En462 => ?_
    refine then_normal ?_
    refine c_f En462 ?_
    refine wp_exit ?_
    refine then_exit ?_
    refine then_exit ?_
    refine block_exit ?_
    refine then_normal ?_
    refine wp_seq ?_
    refine wp_seq ?_
    refine region_from ?_
    refine d_k [0,3,5,6,83] [] 3 En462 fun ac463 En464 => ?_
    refine f_o ?_
    refine m_l 0 En464 Hv438 fun ac465 En466 => ?_
    refine d_e [0,3,5,6,93] [] En466 fun ac467 En468 => ?_
    refine then_normal ?_
    refine c_f En468 ?_
    refine wp_skip ?_
    refine then_normal ?_
    refine wp_seq ?_
    refine d_r [0,2,3,5,6] [] En468 fun ac469 En470 => ?_
    refine then_normal ?_
    refine wp_ret ?_
    refine d_ret1 (t := 2) (v := .int .u8 0) En470 (by kernel_rfl) (by kernel_rfl) ?_
    have hno : rdEsc (List.drop (k + 1) s) = none := esc_n hnq (fun q => by
      have h3 : ∀ t, t < 2 → 0 ≤ hxV (List.getD s (k + 2 + t) 0) := fun t ht => by
        have e1 := q.2.2.1; have e2 := q.2.2.2.1; rw [drop_getD] at e1 e2
        rcases (show t = 0 ∨ t = 1 by omega) with rfl | rfl
        · rw [show k + 2 + 0 = k + 1 + 1 by omega]; exact e1
        · rw [show k + 2 + 1 = k + 1 + 2 by omega]; exact e2
      have h4 := q.2.1; have h5 := q.2.2.2.2; have h6 := hx_2 s k
      first | (have h7 := (x_pre (List.drop (k + 1) s)).2 ⟨by omega, q.1⟩; rw [tkB, h7] at hbx; cases hbx; done) | (have h8 := h3 i (by omega); rw [← hgd] at h8; omega) | omega | (rw [show i = 2 from by omega, h6] at hv; exact h5 (by omega)))
    rw [hno]
    exact ⟨p285, (0 : UInt8), rfl, Hv438.pick [0] (by kernel_rfl) (by decide), (by omega), (fun y j h => by cases h)⟩

end Go.Proofs.YtfcfgbejpcmmkaaDoor

/- Layer 3: the reader of lines: texts between quotes. -/


namespace Go.Proofs.YtfcfgbejpcmmkaaDoor
open Go.Dbr
set_option maxRecDepth 100000
set_option maxHeartbeats 2000000
set_option linter.unusedVariables false
set_option linter.unusedSimpArgs false

theorem esc_le {r : Bs} {x : UInt8} {j : Nat} (h : rdEsc r = some (x, j)) : 1 ≤ j ∧ j ≤ r.length := by
  unfold rdEsc at h
  split at h
  · cases h
  · split at h
    · cases h; omega
    · split at h
      · rename_i q; cases h; have := q.2.1; omega
      · cases h
/-- a text, up to its quote: the text, how much was read -/
def rdTx (fuel : Nat) (r : Bs) : Option (Bs × Nat) :=
  match fuel with
  | 0 => none
  | fuel + 1 =>
    if r.length = 0 then none
    else if r.getD 0 0 = 34 then some ([], 1)
    else if r.getD 0 0 = 92 then (rdEsc (r.drop 1)).bind fun e => (rdTx fuel (r.drop (1 + e.2))).map fun p => (e.1 :: p.1, p.2 + (1 + e.2))
    else if plB (r.getD 0 0) then (rdTx fuel (r.drop 1)).map fun p => (r.getD 0 0 :: p.1, p.2 + 1)
    else none
def rdT (r : Bs) : Option (Bs × Nat) := rdTx (r.length + 1) r
theorem tx_fuel : ∀ {f g : Nat} {r : Bs}, r.length < f → r.length < g → rdTx f r = rdTx g r
  | 0, _, r, h, _ => by omega
  | _, 0, r, _, h => by omega
  | f + 1, g + 1, r, h1, h2 => by
    unfold rdTx
    by_cases h0 : r.length = 0
    · rw [if_pos h0, if_pos h0]
    · rw [if_neg h0, if_neg h0]
      have e1 : rdTx f (r.drop 1) = rdTx g (r.drop 1) := tx_fuel (by rw [List.length_drop]; omega) (by rw [List.length_drop]; omega)
      have e2 : ∀ j, rdTx f (r.drop (1 + j)) = rdTx g (r.drop (1 + j)) := fun j => tx_fuel (by rw [List.length_drop]; omega) (by rw [List.length_drop]; omega)
      rw [e1]
      simp only [e2]
theorem t_0 {r : Bs} (h : ¬ 0 < r.length) : rdT r = none := by rw [rdT, rdTx, if_pos (by omega)]
theorem t_q {r : Bs} (h : 0 < r.length) (g : r.getD 0 0 = 34) : rdT r = some ([], 1) := by rw [rdT, rdTx, if_neg (by omega), if_pos g]
theorem t_e {r : Bs} (h : 0 < r.length) (g : r.getD 0 0 = 92) : rdT r = (rdEsc (r.drop 1)).bind fun e => (rdT (r.drop (1 + e.2))).map fun p => (e.1 :: p.1, p.2 + (1 + e.2)) := by
  rw [rdT, rdTx, if_neg (by omega), if_neg (by rw [g]; decide), if_pos g]
  congr 1
  funext e
  rw [rdT, tx_fuel (f := r.length) (g := (r.drop (1 + e.2)).length + 1) (by rw [List.length_drop]; omega) (Nat.lt_succ_self _)]
theorem t_p {r : Bs} (h : 0 < r.length) (g : plB (r.getD 0 0) = true) : rdT r = (rdT (r.drop 1)).map fun p => (r.getD 0 0 :: p.1, p.2 + 1) := by
  have h1 : ¬ r.getD 0 0 = 34 := fun e => by rw [e] at g; revert g; decide
  have h2 : ¬ r.getD 0 0 = 92 := fun e => by rw [e] at g; revert g; decide
  rw [rdT, rdTx, if_neg (by omega), if_neg h1, if_neg h2, if_pos g, rdT, tx_fuel (f := r.length) (g := (r.drop 1).length + 1) (by rw [List.length_drop]; omega) (Nat.lt_succ_self _)]
theorem t_n {r : Bs} (h1 : ¬ r.getD 0 0 = 34) (h2 : ¬ r.getD 0 0 = 92) (g : ¬ plB (r.getD 0 0) = true) : rdT r = none := by
  rw [rdT, rdTx]
  by_cases h0 : r.length = 0
  · rw [if_pos h0]
  · rw [if_neg h0, if_neg h1, if_neg h2, if_neg g]
/-- what was read, and what is still to be read -/
def cmb (m : Bs) (d : Nat) (o : Option (Bs × Nat)) : Option (Bs × Nat) := o.map fun p => (m ++ p.1, d + p.2)
theorem cmb_p {s m : Bs} {p d : Nat} {R : Option (Bs × Nat)} (h : R = cmb m d (rdT (List.drop p s))) (hl : 0 < (List.drop p s).length) (g : plB ((List.drop p s).getD 0 0) = true) : R = cmb (m ++ [(List.drop p s).getD 0 0]) (d + 1) (rdT (List.drop (p + 1) s)) := by
  rw [h, t_p hl g, List.drop_drop, cmb, cmb, Option.map_map]
  congr 1
  funext q
  simp [Nat.add_assoc, Nat.add_comm, Nat.add_left_comm]
theorem cmb_e {s m : Bs} {p d : Nat} {R : Option (Bs × Nat)} {x : UInt8} {j : Nat} (h : R = cmb m d (rdT (List.drop p s))) (hl : 0 < (List.drop p s).length) (g : (List.drop p s).getD 0 0 = 92) (he : rdEsc (List.drop (p + 1) s) = some (x, j)) : R = cmb (m ++ [x]) (d + (1 + j)) (rdT (List.drop (p + (1 + j)) s)) := by
  rw [h, t_e hl g, List.drop_drop, he]
  simp only [Option.bind_some, List.drop_drop]
  rw [cmb, cmb, Option.map_map]
  congr 1
  funext q
  simp [Nat.add_assoc, Nat.add_comm, Nat.add_left_comm]
theorem cmb_x {s m : Bs} {p d : Nat} {R : Option (Bs × Nat)} (h : R = cmb m d (rdT (List.drop p s))) (hl : 0 < (List.drop p s).length) (g : (List.drop p s).getD 0 0 = 92) (he : rdEsc (List.drop (p + 1) s) = none) : R = none := by
  rw [h, t_e hl g, List.drop_drop, he]; rfl
theorem cmb_0 {s m : Bs} {p d : Nat} {R : Option (Bs × Nat)} (h : R = cmb m d (rdT (List.drop p s))) (hl : ¬ 0 < (List.drop p s).length) : R = none := by rw [h, t_0 hl]; rfl
theorem cmb_b {s m : Bs} {p d : Nat} {R : Option (Bs × Nat)} (h : R = cmb m d (rdT (List.drop p s))) (h1 : ¬ (List.drop p s).getD 0 0 = 34) (h2 : ¬ (List.drop p s).getD 0 0 = 92) (g : ¬ plB ((List.drop p s).getD 0 0) = true) : R = none := by rw [h, t_n h1 h2 g]; rfl
theorem cmb_q {s m : Bs} {p d : Nat} {R : Option (Bs × Nat)} (h : R = cmb m d (rdT (List.drop p s))) (hl : 0 < (List.drop p s).length) (g : (List.drop p s).getD 0 0 = 34) : R = some (m, d + 1) := by rw [h, t_q hl g, cmb]; simp
/-- a text between quotes -/
def rdS (bd : Bool) (r : Bs) : Option (Bs × Nat) := if bd then none else if ([34] : Bs).isPrefixOf r then (rdT (r.drop 1)).map fun p => (p.1, p.2 + 1) else none
def txB (bd : Bool) (r : Bs) : Bool := (rdS bd r).isNone
def txV (bd : Bool) (r : Bs) : Bs := ((rdS bd r).map (·.1)).getD []
theorem u8_e34 {c : UInt8} (h : ((UInt8.toNat c : Nat) : Int) = 34) : c = 34 := UInt8.toNat_inj.1 (by show c.toNat = 34; omega)
theorem u8_e92 {c : UInt8} (h : ((UInt8.toNat c : Nat) : Int) = 92) : c = 92 := UInt8.toNat_inj.1 (by show c.toNat = 92; omega)
theorem u8_n34 {c : UInt8} (h : ¬ ((UInt8.toNat c : Nat) : Int) = 34) : ¬ c = 34 := fun e => h (by rw [e]; rfl)
theorem u8_n92 {c : UInt8} (h : ¬ ((UInt8.toNat c : Nat) : Int) = 92) : ¬ c = 92 := fun e => h (by rw [e]; rfl)

theorem bstr0_go (w : World) (u : Bool) (sb c : Nat) (hH : Heap w [.box sb [bp u sb, .slice none 0 c] 61]) : Calls Tryd.prog 25 #[pt sb] w fun e w' => e = .returned (.string (bstr [])) ∧ Ev w [.box sb [bp u sb, .slice none 0 c] 61] w' [] := by
 refine d_0 [(0, pt sb)] 14 Go.Proofs.Tryd.func25 Go.Proofs.Tryd.ntmps25 (hH) fun act0 En0 Hv0 => ?_
 refine d_s [0,2] [] En0 fun ac1 En2 => ?_
 refine wp_seq ?_
 refine r_c (fun ac wo => Env ac 14 [(2, .string (bstr []))] ∧ Ev w [.box sb [bp u sb, .slice none 0 c] 61] wo [.box sb [bp u sb, .slice none 0 c] 61]) ?_ ?_
 ·
  refine h_s (fun wv => Ev w [.box sb [bp u sb, .slice none 0 c] 61] wv [.box sb [bp u sb, .slice none 0 c] 61]) [] 12 ?_
  have wo3 := Hv0.trans (Ev.drew Hv0.heap)
  refine q_s [0,1,2] [] 9 En2 (wo3.pick [0] (by kernel_rfl) (by decide)) fun ac56 En57 => ?_
  refine q_l 0 3 En57 (wo3.pick [0] (by kernel_rfl) (by decide)) fun ac58 En59 => ?_
  refine q_s [5,6,7] [] 5 En59 (wo3.pick [0] (by kernel_rfl) (by decide)) fun ac60 En61 => ?_
  refine q_l 0 8 En61 (wo3.pick [0] (by kernel_rfl) (by decide)) fun ac62 En63 => ?_
  refine q_s [9] [] 3 En63 (wo3.pick [0] (by kernel_rfl) (by decide)) fun ac64 En65 => ?_
  refine q_t 4 ?_
  refine q_v (x := Builtin.unsafeSliceData_ #[59] 91 #[.slice none 0 c]) (v := .pointer none) En65 (Lib.run_unsafeSliceData_nil _ _ _ _ _) fun ac66 En67 => ?_
  refine ⟨fun _ => wo3.pick [0] (by kernel_rfl) (by decide), ?_⟩
  refine q_t 10 ?_
  refine q_v (x := Builtin.unsafeString_ #[91, 3] 9 #[.pointer none, .int .i64 0]) (v := .string (bstr [])) En67 (Lib.run_unsafeString_none _ _ _ _ _) fun ac68 En69 => ?_
  refine ⟨fun _ => wo3.pick [0] (by kernel_rfl) (by decide), ?_⟩
  refine q_s [11] [] 0 En69 (wo3.pick [0] (by kernel_rfl) (by decide)) fun ac70 En71 => ?_
  exact h_e ⟨En71.sub (by kernel_rfl), wo3.pick [0] (by kernel_rfl) (by decide)⟩
 rintro ac72 wo73 ⟨En74, Hv75⟩
 refine then_normal ?_
 refine wp_ret ?_
 refine d_ret1 (t := 2) (v := .string (bstr [])) En74 (by kernel_rfl) (by kernel_rfl) ?_
 exact ⟨rfl, Hv75.pick [] (by kernel_rfl) (by decide)⟩

end Go.Proofs.YtfcfgbejpcmmkaaDoor

/- Layer 3: the reader of lines: texts between quotes, the walk. -/

namespace Go.Proofs.YtfcfgbejpcmmkaaDoor
open Go.Dbr
set_option maxRecDepth 100000
set_option maxHeartbeats 2000000
set_option linter.unusedVariables false
set_option linter.unusedSimpArgs false

theorem eq0b (s : Bs) : (s == []) = decide (¬ 0 < s.length) := by cases s <;> rfl
theorem rds_t (r : Bs) : rdS true r = none := rfl
theorem rds_n {bd : Bool} {r : Bs} (h : tkB bd [34] r = true) : rdS bd r = none := by
  unfold rdS
  cases bd with
  | true => rfl
  | false =>
    cases h2 : ([34] : Bs).isPrefixOf r with
    | true => rw [tkB, h2] at h; cases h
    | false => rfl
theorem rds_y {bd : Bool} {r : Bs} (h : tkB bd [34] r = false) : rdS bd r = (rdT (r.drop 1)).map fun p => (p.1, p.2 + 1) := by
  unfold rdS
  cases bd with
  | true => cases h
  | false =>
    cases h2 : ([34] : Bs).isPrefixOf r with
    | true => rfl
    | false => rw [tkB, h2] at h; cases h

theorem text_go (w : World) (rb : Nat) (s : Bs) (k : Nat) (bd : Bool) (hs : List.length s ≤ 1024) (hk : k ≤ List.length s) (hH : Heap w [.box rb [.string (bstr s), ni k, .bool bd] 73]) : Calls Tryd.prog 48 #[pt rb] w fun e w' => ∃ p, e = .returned (.string (bstr (txV bd (List.drop k s)))) ∧ Ev w [.box rb [.string (bstr s), ni k, .bool bd] 73] w' [.box rb [.string (bstr s), ni p, .bool (txB bd (List.drop k s))] 73] ∧ p ≤ List.length s ∧ (∀ t n, rdS bd (List.drop k s) = some (t, n) → p = k + n) := by
 refine d_0 [(0, pt rb)] 62 Go.Proofs.Tryd.func48 Go.Proofs.Tryd.ntmps48 (hH) fun act0 En0 Hv0 => ?_
 refine wp_seq ?_
 refine d_r [0,2] [] En0 fun ac1 En2 => ?_
 refine then_normal ?_
 refine wp_seq ?_
 refine region_from ?_
 refine d_k [0,2,5] [] 1 En2 fun ac3 En4 => ?_
 refine f_o ?_
 refine c_l [0] (M := [.box rb [.string (bstr s), ni k, .bool bd] 73]) En4 Hv0 (fun hM8 => take_go _ rb s [34] k bd hs (by omega) hM8) ?_
 rintro _ wo9 ⟨p5, rfl, he10, hp6, hq7⟩
 refine ⟨_, _, [.box rb [.string (bstr s), ni p5, .bool (tkB bd [34] (List.drop k s))] 73], rfl, he10, by kernel_rfl, fun ac12 En13 Hv14 => ?_⟩
 refine f_e ?_
 refine then_normal ?_
 refine wp_seq ?_
 cases hbx : tkB bd [34] (List.drop k s) with
 | false =>
  have hpe0 : p5 = k + 1 := hq7 hbx
  subst hpe0
  have Hv15 : Ev w [.box rb [.string (bstr s), ni k, .bool bd] 73] wo9 [.box rb [.string (bstr s), .int .i64 ((k + 1 : Nat) : Int), .bool false] 73] := by have h := Hv14; rw [hbx] at h; exact h
  refine region_from ?_
  refine f_o ?_
  refine m_z 61 [.pointer none, .slice none 0 0] En13 Hv15 fun ac17 wo18 bk16 En19 Hv20 => ?_
  refine f_e ?_
  refine then_normal ?_
  refine wp_seq ?_
  refine wp_block ?_
  have Hv21 : Ev w [.box rb [.string (bstr s), ni k, .bool bd] 73] wo18 [.box rb [.string (bstr s), .int .i64 ((k + 1 : Nat) : Int), .bool false] 73, .box bk16 [.pointer none, .slice none 0 0] 61, .vec none 0 1 (bys []) 5] := Ev.nil (sz := 1) (T := 5) Hv20
  refine loop_m (fun ms22 ac wo => ∃ (b : Bool) (q : Nat) (u : Bool) (a2 : Option Addr) (c2 : Nat) (m : Bs), ms22 = (bif b then 0 else List.length s - q + 1 : Nat) ∧ Env ac 62 [(0, pt rb), (3, pt bk16)] ∧ Ev w [.box rb [.string (bstr s), ni k, .bool bd] 73] wo [.box rb [.string (bstr s), ni q, .bool b] 73, .box bk16 [bp u bk16, .slice a2 (List.length m) c2] 61, .vec a2 c2 1 (bys m) 5] ∧ (q ≤ List.length s) ∧ (b = false → k + 1 ≤ q) ∧ (List.length m ≤ 1025) ∧ (b = false → rdT (List.drop (k + 1) s) = cmb m (q - (k + 1)) (rdT (List.drop q s)) ∧ List.length m ≤ q - (k + 1)) ∧ (b = true → rdT (List.drop (k + 1) s) = none) ∧ (m = [] → a2 = none)) ⟨_, false, (k + 1), false, none, 0, [], rfl, En19.sub (by kernel_rfl), Hv21.pick [0, 1, 2] (by kernel_rfl) (by decide), (by omega), (fun _ => Nat.le_refl _), (by simp), (fun _ => ⟨by rw [Nat.sub_self]; cases rdT (List.drop (k + 1) s) <;> simp [cmb], by simp⟩), (fun h => by cases h), (fun _ => rfl)⟩ ?_
  rintro mm28 ac24 wo25 ⟨b, q, u, a2, c2, m, rfl, En26, Hv27, hq, hkq, hml, hgo, hbd, hn0⟩
  refine wp_seq ?_
  refine wp_seq ?_
  cases b with
  | false =>
   have hgo2 := hgo rfl
   have hkq2 := hkq rfl
   have hdl : List.length (List.drop q s) = List.length s - q := List.length_drop
   refine region_from ?_
   refine d_k [0,3,9] [] 3 En26 fun ac29 En30 => ?_
   refine f_o ?_
   refine m_l 0 En30 Hv27 fun ac31 En32 => ?_
   refine d_e [0,3,11] [] En32 fun ac33 En34 => ?_
   refine then_normal ?_
   refine c_t En34 ?_
   refine wp_skip ?_
   refine then_normal ?_
   refine wp_block ?_
   refine wp_seq ?_
   refine region_from ?_
   refine d_k [0,3,12] [] 1 En34 fun ac35 En36 => ?_
   refine f_o ?_
   refine c_l [0] (M := [.box rb [.string (bstr s), ni q, .bool false] 73]) En36 Hv27 (fun hM37 => rest_go _ rb s q false hs (by omega) hM37) ?_
   rintro _ wo38 ⟨rfl, he39⟩
   refine ⟨_, _, [.box rb [.string (bstr s), ni q, .bool false] 73, .box bk16 [bp u bk16, .slice a2 (List.length m) c2] 61, .vec a2 c2 1 (bys m) 5], rfl, he39, by kernel_rfl, fun ac41 En42 Hv43 => ?_⟩
   refine d_e [0,3,4] [] En42 fun ac44 En45 => ?_
   refine then_normal ?_
   refine wp_block ?_
   refine wp_seq ?_
   refine d_r [0,3,4,20] [(1, g_v (show (.bool (ByteArray.toList (bstr (List.drop q s)) == ByteArray.toList (bstr [])) : Value) = .bool (decide (¬ 0 < List.length (List.drop q s))) by rw [Go.Dbr.bstr_eq (List.drop q s) [], eq0b (List.drop q s)] <;> rfl))] En45 fun ac46 En47 => ?_
   refine then_normal ?_
   refine c_d (¬ 0 < List.length (List.drop q s)) En47 (fun hc48 => ?_) (fun hc48 => ?_)
   ·
    refine region_from ?_
    refine d_k [0,3,4,23,26] [] 4 En47 fun ac49 En50 => ?_
    refine f_o ?_
    refine m_l 0 En50 Hv43 fun ac51 En52 => ?_
    refine f_o ?_
    refine c_l [0] (M := [.box rb [.string (bstr s), ni q, .bool false] 73]) En52 Hv43 (fun hM53 => fail_go _ rb s q q false hM53) ?_
    rintro _ wo54 ⟨rfl, he55⟩
    refine ⟨_, _, [.box rb [.string (bstr s), ni q, .bool true] 73, .box bk16 [bp u bk16, .slice a2 (List.length m) c2] 61, .vec a2 c2 1 (bys m) 5], rfl, he55, by kernel_rfl, fun ac57 En58 Hv59 => ?_⟩
    refine f_e ?_
    refine block_normal ?_
    refine block_normal ?_
    refine then_normal ?_
    refine ⟨_, ⟨true, q, u, a2, c2, m, rfl, En58.sub (by kernel_rfl), Hv59.pick [0, 1, 2] (by kernel_rfl) (by decide), (by omega), (fun h => by cases h), (by first | exact hml | (simp only [List.length_append, List.length_cons, List.length_nil]; omega)), (fun h => by cases h), (fun _ => by first | exact cmb_0 hgo2.1 (by assumption) | exact cmb_b hgo2.1 (u8_n34 (by assumption)) (u8_n92 (by assumption)) (by assumption) | exact cmb_x hgo2.1 (by omega) (u8_e92 (by assumption)) he), hn0⟩, ?_⟩
    first | omega | (simp only [_root_.cond_false, _root_.cond_true]; omega)
   ·
    refine wp_seq ?_
    have hb60 : 0 < List.length (List.drop q s) := by omega
    refine region_from ?_
    refine d_k [0,3,4,30] [] 1 En47 fun ac61 En62 => ?_
    refine f_o ?_
    refine q_v (x := Instr.index 9 (.string (bstr (List.drop q s))) (.int .i64 0)) (v := .int .u8 ((UInt8.toNat (List.getD (List.drop q s) 0 0) : Nat) : Int)) En62 (Go.Dbr.run_indexstr (s := (List.drop q s)) (j := 0) (by kernel_rfl) (by omega) hb60 _) fun ac63 En64 => ?_
    refine d_e [0,3,4,29] [] En64 fun ac65 En66 => ?_
    refine then_normal ?_
    refine c_e ((UInt8.toNat (List.getD (List.drop q s) 0 0) : Nat) : Int) (34 : Int) En66 (fun hc67 => ?_) (fun hc67 => ?_)
    ·
     refine wp_seq ?_
     refine region_from ?_
     refine d_k [0,3,4,33,35] [] 3 En66 fun ac68 En69 => ?_
     refine f_o ?_
     refine m_l 0 En69 Hv43 fun ac70 En71 => ?_
     refine d_k [0,3,4,37,39] [(4, g_n (w_a q 1))] 7 En71 fun ac72 En73 => ?_
     refine f_o ?_
     refine m_s 0 [.box rb [.string (bstr s), .int .i64 ((q + 1 : Nat) : Int), .bool false] 73, .box bk16 [bp u bk16, .slice a2 (List.length m) c2] 61, .vec a2 c2 1 (bys m) 5] En73 Hv43 fun ac74 wo75 En76 Hv77 => ?_
     refine f_e ?_
     refine then_normal ?_
     refine wp_seq ?_
     by_cases hm0 : m = []
     ·
      subst hm0
      obtain rfl := hn0 rfl
      have Hv78 : Ev w [.box rb [.string (bstr s), ni k, .bool bd] 73] wo75 [.box rb [.string (bstr s), .int .i64 ((q + 1 : Nat) : Int), .bool false] 73, .box bk16 [bp u bk16, .slice none 0 c2] 61, .vec none c2 1 (bys []) 5] := by have h := Hv77; skip; exact h
      refine region_from ?_
      refine f_o ?_
      refine c_l [1] (M := [.box bk16 [bp u bk16, .slice none 0 c2] 61]) En76 Hv78 (fun hM79 => bstr0_go _ u bk16 c2 hM79) ?_
      rintro _ wo80 ⟨rfl, he81⟩
      refine ⟨_, _, [.box rb [.string (bstr s), .int .i64 ((q + 1 : Nat) : Int), .bool false] 73, .vec none c2 1 (bys []) 5], rfl, he81, by kernel_rfl, fun ac83 En84 Hv85 => ?_⟩
      refine d_e [0,2,3,4] [] En84 fun ac86 En87 => ?_
      refine then_normal ?_
      refine wp_ret ?_
      refine block_ret ?_
      refine block_ret ?_
      refine then_ret ?_
      refine block_ret ?_
      refine then_ret ?_
      refine d_ret1 (t := 2) (v := .string (bstr [])) En87 (by kernel_rfl) (by kernel_rfl) ?_
      have hys : rdS bd (List.drop k s) = some ([], q - (k + 1) + 1 + 1) := by rw [rds_y hbx, List.drop_drop, cmb_q hgo2.1 (by omega) (u8_e34 (by assumption))]; rfl
      rw [show txV bd (List.drop k s) = [] from by rw [txV, hys]; rfl, show txB bd (List.drop k s) = false from by rw [txB, hys]; rfl]
      exact ⟨(q + 1), rfl, Hv85.pick [0] (by kernel_rfl) (by decide), (by omega), (fun t n h => by rw [hys] at h; cases h; omega)⟩
     ·
      refine region_from ?_
      refine f_o ?_
      refine c_l [1,2] (M := [.box bk16 [bp u bk16, .slice a2 (List.length m) c2] 61, .vec a2 c2 1 (bys m) 5]) En76 Hv77 (fun hM88 => bstr_go _ u bk16 a2 c2 m hm0 (by omega) hM88) ?_
      rintro _ wo89 ⟨rfl, he90⟩
      refine ⟨_, _, [.box bk16 [bp u bk16, .slice a2 (List.length m) c2] 61, .box rb [.string (bstr s), .int .i64 ((q + 1 : Nat) : Int), .bool false] 73], rfl, he90, by kernel_rfl, fun ac92 En93 Hv94 => ?_⟩
      refine d_e [0,2,3,4] [] En93 fun ac95 En96 => ?_
      refine then_normal ?_
      refine wp_ret ?_
      refine block_ret ?_
      refine block_ret ?_
      refine then_ret ?_
      refine block_ret ?_
      refine then_ret ?_
      refine d_ret1 (t := 2) (v := .string (bstr m)) En96 (by kernel_rfl) (by kernel_rfl) ?_
      have hys : rdS bd (List.drop k s) = some (m, q - (k + 1) + 1 + 1) := by rw [rds_y hbx, List.drop_drop, cmb_q hgo2.1 (by omega) (u8_e34 (by assumption))]; rfl
      rw [show txV bd (List.drop k s) = m from by rw [txV, hys]; rfl, show txB bd (List.drop k s) = false from by rw [txB, hys]; rfl]
      exact ⟨(q + 1), rfl, Hv94.pick [1] (by kernel_rfl) (by decide), (by omega), (fun t n h => by rw [hys] at h; cases h; omega)⟩
    ·
     refine wp_seq ?_
     have hb97 : 0 < List.length (List.drop q s) := by omega
     refine region_from ?_
     refine d_k [0,3,4,42] [] 1 En66 fun ac98 En99 => ?_
     refine f_o ?_
     refine q_v (x := Instr.index 9 (.string (bstr (List.drop q s))) (.int .i64 0)) (v := .int .u8 ((UInt8.toNat (List.getD (List.drop q s) 0 0) : Nat) : Int)) En99 (Go.Dbr.run_indexstr (s := (List.drop q s)) (j := 0) (by kernel_rfl) (by omega) hb97 _) fun ac100 En101 => ?_
     refine d_e [0,3,4,41] [] En101 fun ac102 En103 => ?_
     refine then_normal ?_
     refine c_e ((UInt8.toNat (List.getD (List.drop q s) 0 0) : Nat) : Int) (92 : Int) En103 (fun hc104 => ?_) (fun hc104 => ?_)
     ·
      rcases he : rdEsc (List.drop (q + 1) s) with _ | ⟨ey, ej⟩
      ·
       refine region_from ?_
       refine d_k [0,3,4,45] [] 1 En103 fun ac105 En106 => ?_
       refine f_o ?_
       refine c_l [0] (M := [.box rb [.string (bstr s), ni q, .bool false] 73]) En106 Hv43 (fun hM111 => escape_go _ rb s q hs (by omega) hM111) ?_
       rintro _ wo112 ⟨p107, xe108, rfl, he113, hp109, hq110⟩
       refine ⟨_, _, [.box rb [.string (bstr s), ni p107, .bool (Option.isNone (rdEsc (List.drop (q + 1) s)))] 73, .box bk16 [bp u bk16, .slice a2 (List.length m) c2] 61, .vec a2 c2 1 (bys m) 5], rfl, he113, by kernel_rfl, fun ac115 En116 Hv117 => ?_⟩
       have Hv118 : Ev w [.box rb [.string (bstr s), ni k, .bool bd] 73] wo112 [.box rb [.string (bstr s), ni p107, .bool true] 73, .box bk16 [bp u bk16, .slice a2 (List.length m) c2] 61, .vec a2 c2 1 (bys m) 5] := by have h := Hv117; rw [he] at h; exact h
       refine f_o ?_
       refine c_l [1,2] (M := [.box bk16 [bp u bk16, .slice a2 (List.length m) c2] 61, .vec a2 c2 1 (bys m) 5]) En116 Hv118 (fun hM121 => wbyte_go _ u bk16 a2 c2 m xe108 (by omega) hM121) ?_
       rintro _ wo122 ⟨ab119, cb120, rfl, he123⟩
       refine ⟨_, _, [.box bk16 [bp true bk16, .slice ab119 (List.length (m ++ [xe108])) cb120] 61, .vec ab119 cb120 1 (bys (m ++ [xe108])) 5, .box rb [.string (bstr s), ni p107, .bool true] 73], rfl, he123, by kernel_rfl, fun ac125 En126 Hv127 => ?_⟩
       refine f_e ?_
       refine block_normal ?_
       refine block_normal ?_
       refine then_normal ?_
       refine ⟨_, ⟨true, p107, true, ab119, cb120, (m ++ [xe108]), rfl, En126.sub (by kernel_rfl), Hv127.pick [2, 0, 1] (by kernel_rfl) (by decide), (by omega), (fun h => by cases h), (by first | exact hml | (simp only [List.length_append, List.length_cons, List.length_nil]; omega)), (fun h => by cases h), (fun _ => by first | exact cmb_0 hgo2.1 (by assumption) | exact cmb_b hgo2.1 (u8_n34 (by assumption)) (u8_n92 (by assumption)) (by assumption) | exact cmb_x hgo2.1 (by omega) (u8_e92 (by assumption)) he), (fun h => by simp at h)⟩, ?_⟩
       first | omega | (simp only [_root_.cond_false, _root_.cond_true]; omega)
      ·
       have hel := esc_le he
       have hdl3 : List.length (List.drop (q + 1) s) = List.length s - (q + 1) := List.length_drop
       refine region_from ?_
       refine d_k [0,3,4,45] [] 1 En103 fun ac128 En129 => ?_
       refine f_o ?_
       refine c_l [0] (M := [.box rb [.string (bstr s), ni q, .bool false] 73]) En129 Hv43 (fun hM134 => escape_go _ rb s q hs (by omega) hM134) ?_
       rintro _ wo135 ⟨p130, xe131, rfl, he136, hp132, hq133⟩
       refine ⟨_, _, [.box rb [.string (bstr s), ni p130, .bool (Option.isNone (rdEsc (List.drop (q + 1) s)))] 73, .box bk16 [bp u bk16, .slice a2 (List.length m) c2] 61, .vec a2 c2 1 (bys m) 5], rfl, he136, by kernel_rfl, fun ac138 En139 Hv140 => ?_⟩
       have Hv141 : Ev w [.box rb [.string (bstr s), ni k, .bool bd] 73] wo135 [.box rb [.string (bstr s), ni p130, .bool false] 73, .box bk16 [bp u bk16, .slice a2 (List.length m) c2] 61, .vec a2 c2 1 (bys m) 5] := by have h := Hv140; rw [he] at h; exact h
       obtain ⟨hxe, hpe⟩ := hq133 _ _ he
       refine f_o ?_
       refine c_l [1,2] (M := [.box bk16 [bp u bk16, .slice a2 (List.length m) c2] 61, .vec a2 c2 1 (bys m) 5]) En139 Hv141 (fun hM144 => wbyte_go _ u bk16 a2 c2 m xe131 (by omega) hM144) ?_
       rintro _ wo145 ⟨ab142, cb143, rfl, he146⟩
       refine ⟨_, _, [.box bk16 [bp true bk16, .slice ab142 (List.length (m ++ [xe131])) cb143] 61, .vec ab142 cb143 1 (bys (m ++ [xe131])) 5, .box rb [.string (bstr s), ni p130, .bool false] 73], rfl, he146, by kernel_rfl, fun ac148 En149 Hv150 => ?_⟩
       refine f_e ?_
       refine block_normal ?_
       refine block_normal ?_
       refine then_normal ?_
       refine ⟨_, ⟨false, p130, true, ab142, cb143, (m ++ [xe131]), rfl, En149.sub (by kernel_rfl), Hv150.pick [2, 0, 1] (by kernel_rfl) (by decide), (by omega), (fun _ => by omega), (by first | exact hml | (simp only [List.length_append, List.length_cons, List.length_nil]; omega)), (fun _ => ⟨by rw [hxe, hpe, show q + 1 + ej - (k + 1) = q - (k + 1) + (1 + ej) from by omega, show q + 1 + ej = q + (1 + ej) from by omega]; exact cmb_e hgo2.1 (by omega) (u8_e92 (by assumption)) he, by simp only [List.length_append, List.length_cons, List.length_nil]; omega⟩), (fun h => by cases h), (fun h => by simp at h)⟩, ?_⟩
       first | omega | (simp only [_root_.cond_false, _root_.cond_true]; omega)
     ·
      refine wp_seq ?_
      have hb151 : 0 < List.length (List.drop q s) := by omega
      refine region_from ?_
      refine d_k [0,3,4,49] [] 1 En103 fun ac152 En153 => ?_
      refine f_o ?_
      refine q_v (x := Instr.index 9 (.string (bstr (List.drop q s))) (.int .i64 0)) (v := .int .u8 ((UInt8.toNat (List.getD (List.drop q s) 0 0) : Nat) : Int)) En153 (Go.Dbr.run_indexstr (s := (List.drop q s)) (j := 0) (by kernel_rfl) (by omega) hb151 _) fun ac154 En155 => ?_
      refine f_o ?_
      refine c_p En155 Hv43 (plain_go _ (List.getD (List.drop q s) 0 0)) fun ac160 wo157 En161 Hv162 => ?_
      refine d_e [0,3,4,48] [] En161 fun ac163 En164 => ?_
      refine then_normal ?_
      refine cond_at En164 (t := plB (List.getD (List.drop q s) 0 0)) (by kernel_rfl) (fun hc165 => ?_) (fun hc165 => ?_)
      ·
       replace hc165 : plB (List.getD (List.drop q s) 0 0) = true := hc165
       refine wp_seq ?_
       have hb166 : 0 < List.length (List.drop q s) := by omega
       refine region_from ?_
       refine d_k [0,3,4,52] [] 1 En164 fun ac167 En168 => ?_
       refine f_o ?_
       refine q_v (x := Instr.index 9 (.string (bstr (List.drop q s))) (.int .i64 0)) (v := .int .u8 ((UInt8.toNat (List.getD (List.drop q s) 0 0) : Nat) : Int)) En168 (Go.Dbr.run_indexstr (s := (List.drop q s)) (j := 0) (by kernel_rfl) (by omega) hb166 _) fun ac169 En170 => ?_
       refine f_o ?_
       refine c_l [1,2] (M := [.box bk16 [bp u bk16, .slice a2 (List.length m) c2] 61, .vec a2 c2 1 (bys m) 5]) En170 Hv162 (fun hM173 => wbyte_go _ u bk16 a2 c2 m (List.getD (List.drop q s) 0 0) (by omega) hM173) ?_
       rintro _ wo174 ⟨ab171, cb172, rfl, he175⟩
       refine ⟨_, _, [.box bk16 [bp true bk16, .slice ab171 (List.length (m ++ [List.getD (List.drop q s) 0 0])) cb172] 61, .vec ab171 cb172 1 (bys (m ++ [List.getD (List.drop q s) 0 0])) 5, .box rb [.string (bstr s), ni q, .bool false] 73], rfl, he175, by kernel_rfl, fun ac177 En178 Hv179 => ?_⟩
       refine f_e ?_
       refine then_normal ?_
       refine region_from ?_
       refine d_k [0,3,4,55,57] [] 3 En178 fun ac180 En181 => ?_
       refine f_o ?_
       refine m_l 2 En181 Hv179 fun ac182 En183 => ?_
       refine d_k [0,3,4,59,61] [(4, g_n (w_a q 1))] 7 En183 fun ac184 En185 => ?_
       refine f_o ?_
       refine m_s 2 [.box bk16 [bp true bk16, .slice ab171 (List.length (m ++ [List.getD (List.drop q s) 0 0])) cb172] 61, .vec ab171 cb172 1 (bys (m ++ [List.getD (List.drop q s) 0 0])) 5, .box rb [.string (bstr s), .int .i64 ((q + 1 : Nat) : Int), .bool false] 73] En185 Hv179 fun ac186 wo187 En188 Hv189 => ?_
       refine f_e ?_
       refine block_normal ?_
       refine block_normal ?_
       refine then_normal ?_
       refine ⟨_, ⟨false, (q + 1), true, ab171, cb172, (m ++ [List.getD (List.drop q s) 0 0]), rfl, En188.sub (by kernel_rfl), Hv189.pick [2, 0, 1] (by kernel_rfl) (by decide), (by omega), (fun _ => by omega), (by first | exact hml | (simp only [List.length_append, List.length_cons, List.length_nil]; omega)), (fun _ => ⟨by rw [show q + 1 - (k + 1) = q - (k + 1) + 1 from by omega]; exact cmb_p hgo2.1 (by omega) (by assumption), by simp only [List.length_append, List.length_cons, List.length_nil]; omega⟩), (fun h => by cases h), (fun h => by simp at h)⟩, ?_⟩
       first | omega | (simp only [_root_.cond_false, _root_.cond_true]; omega)
      ·
       replace hc165 : ¬ (plB (List.getD (List.drop q s) 0 0) = true) := Bool.eq_false_iff.1 hc165
       refine region_from ?_
       refine d_k [0,3,4,14,17] [] 4 En164 fun ac190 En191 => ?_
       refine f_o ?_
       refine m_l 0 En191 Hv162 fun ac192 En193 => ?_
       refine f_o ?_
       refine c_l [0] (M := [.box rb [.string (bstr s), ni q, .bool false] 73]) En193 Hv162 (fun hM194 => fail_go _ rb s q q false hM194) ?_
       rintro _ wo195 ⟨rfl, he196⟩
       refine ⟨_, _, [.box rb [.string (bstr s), ni q, .bool true] 73, .box bk16 [bp u bk16, .slice a2 (List.length m) c2] 61, .vec a2 c2 1 (bys m) 5], rfl, he196, by kernel_rfl, fun ac198 En199 Hv200 => ?_⟩
       refine f_e ?_
       refine block_normal ?_
       refine block_normal ?_
       refine then_normal ?_
       refine ⟨_, ⟨true, q, u, a2, c2, m, rfl, En199.sub (by kernel_rfl), Hv200.pick [0, 1, 2] (by kernel_rfl) (by decide), (by omega), (fun h => by cases h), (by first | exact hml | (simp only [List.length_append, List.length_cons, List.length_nil]; omega)), (fun h => by cases h), (fun _ => by first | exact cmb_0 hgo2.1 (by assumption) | exact cmb_b hgo2.1 (u8_n34 (by assumption)) (u8_n92 (by assumption)) (by assumption) | exact cmb_x hgo2.1 (by omega) (u8_e92 (by assumption)) he), hn0⟩, ?_⟩
       first | omega | (simp only [_root_.cond_false, _root_.cond_true]; omega)
  | true =>
   refine region_from ?_
   refine d_k [0,3,9] [] 3 En26 fun ac201 En202 => ?_
   refine f_o ?_
   refine m_l 0 En202 Hv27 fun ac203 En204 => ?_
   refine d_e [0,3,11] [] En204 fun ac205 En206 => ?_
   refine then_normal ?_
   refine c_f En206 ?_
   refine wp_exit ?_
   refine then_exit ?_
   refine then_exit ?_
   refine block_exit ?_
   refine then_normal ?_
   refine wp_seq ?_
   refine d_r [0,2,3] [] En206 fun ac207 En208 => ?_
   refine then_normal ?_
   refine wp_ret ?_
   refine d_ret1 (t := 2) (v := .string (bstr [])) En208 (by kernel_rfl) (by kernel_rfl) ?_
   have hno : rdS bd (List.drop k s) = none := by first | exact rds_n hbx | (rw [rds_y hbx, List.drop_drop, hbd rfl]; rfl)
   rw [show txV bd (List.drop k s) = [] from by rw [txV, hno]; rfl, show txB bd (List.drop k s) = true from by rw [txB, hno]; rfl]
   exact ⟨q, rfl, Hv27.pick [0] (by kernel_rfl) (by decide), (by omega), (fun t n h => by rw [hno] at h; cases h)⟩
 | true =>
  have Hv209 : Ev w [.box rb [.string (bstr s), ni k, .bool bd] 73] wo9 [.box rb [.string (bstr s), ni p5, .bool true] 73] := by have h := Hv14; rw [hbx] at h; exact h
  refine region_from ?_
  refine f_o ?_
  refine m_z 61 [.pointer none, .slice none 0 0] En13 Hv209 fun ac211 wo212 bk210 En213 Hv214 => ?_
  refine f_e ?_
  refine then_normal ?_
  refine wp_seq ?_
  refine wp_block ?_
  refine loop_m (fun ms215 ac wo => ∃ (i : Nat), ms215 = (1 - i : Nat) ∧ Env ac 62 [(0, pt rb), (3, pt bk210)] ∧ Ev w [.box rb [.string (bstr s), ni k, .bool bd] 73] wo [.box rb [.string (bstr s), ni p5, .bool true] 73] ∧ (i = 0)) ⟨_, 0, rfl, En213.sub (by kernel_rfl), Hv214.pick [0] (by kernel_rfl) (by decide), rfl⟩ ?_
  rintro mm221 ac217 wo218 ⟨i, rfl, En219, Hv220, hi⟩
  refine wp_seq ?_
  refine wp_seq ?_
  refine region_from ?_
  refine d_k [0,3,9] [] 3 En219 fun ac222 En223 => ?_
  refine f_o ?_
  refine m_l 0 En223 Hv220 fun ac224 En225 => ?_
  refine d_e [0,3,11] [] En225 fun ac226 En227 => ?_
  refine then_normal ?_
  refine c_f En227 ?_
  refine wp_exit ?_
  refine then_exit ?_
  refine then_exit ?_
  refine block_exit ?_
  refine then_normal ?_
  refine wp_seq ?_
  refine d_r [0,2,3] [] En227 fun ac228 En229 => ?_
  refine then_normal ?_
  refine wp_ret ?_
  refine d_ret1 (t := 2) (v := .string (bstr [])) En229 (by kernel_rfl) (by kernel_rfl) ?_
  have hno : rdS bd (List.drop k s) = none := by first | exact rds_n hbx | (rw [rds_y hbx, List.drop_drop, hbd rfl]; rfl)
  rw [show txV bd (List.drop k s) = [] from by rw [txV, hno]; rfl, show txB bd (List.drop k s) = true from by rw [txB, hno]; rfl]
  exact ⟨p5, rfl, Hv220.pick [0] (by kernel_rfl) (by decide), (by omega), (fun t n h => by rw [hno] at h; cases h)⟩

end Go.Proofs.YtfcfgbejpcmmkaaDoor
