/- Layer 3: texts between quotes. -/
import Derived.Test.YtfcfgbejpcmmkaaDoorA2
import Derived.Test.YtfcfgbejpcmmkaaDoorBuild
namespace Go.Proofs.YtfcfgbejpcmmkaaDoor
open Go.Dbr
set_option maxRecDepth 100000
set_option maxHeartbeats 2000000
set_option linter.unusedVariables false
set_option linter.unusedSimpArgs false

def hexD (n : Nat) : UInt8 := ([48, 49, 50, 51, 52, 53, 54, 55, 56, 57, 97, 98, 99, 100, 101, 102] : Bs).getD n 0
def hexS (c : UInt8) : Bs := [92, 120, hexD (c.toNat / 16), hexD (c.toNat % 16)]
def escB (c : UInt8) : Bs := if plB c then [c] else if c = 34 ∨ c = 92 then [92, c] else hexS c
def quoL (s : Bs) : Bs := 34 :: (s.flatMap escB ++ [34])
theorem esc_p {c : UInt8} (h : plB c = true) : escB c = [c] := if_pos h
theorem esc_q {c : UInt8} (h : c = 34 ∨ c = 92) : escB c = [92, c] := by
  rw [escB, if_neg ?_, if_pos h]
  rcases h with rfl | rfl <;> decide
theorem esc_h {c : UInt8} (h : ¬ plB c = true) (g : ¬ (c = 34 ∨ c = 92)) : escB c = hexS c := by rw [escB, if_neg h, if_neg g]
theorem esc_len (c : UInt8) : 1 ≤ (escB c).length ∧ (escB c).length ≤ 4 := by
  unfold escB
  split
  · simp
  · split <;> simp [hexS]
theorem esc_next {s : Bs} {i : Nat} (hi : i < s.length) : (s.take (i + 1)).flatMap escB = (s.take i).flatMap escB ++ escB (s.getD i 0) := by
  rw [List.take_add_one, List.flatMap_append, List.getElem?_eq_getElem hi, List.getD_eq_getElem?_getD, List.getElem?_eq_getElem hi]
  simp
theorem esc_all (s : Bs) : s.length ≤ (s.flatMap escB).length ∧ (s.flatMap escB).length ≤ 4 * s.length := by
  induction s with
  | nil => simp
  | cons x r ih =>
    have := esc_len x
    rw [List.flatMap_cons, List.length_append, List.length_cons]
    omega
theorem quo_len (s : Bs) : s.length + 2 ≤ (quoL s).length ∧ (quoL s).length ≤ 4 * s.length + 2 := by
  have := esc_all s
  rw [quoL, List.length_cons, List.length_append]
  simp only [List.length_cons, List.length_nil]
  omega
theorem q_p {l m s : Bs} {i : Nat} (h : m = l ++ 34 :: (s.take i).flatMap escB) (hi : i < s.length) (g : plB (s.getD i 0) = true) : m ++ [s.getD i 0] = l ++ 34 :: (s.take (i + 1)).flatMap escB := by
  rw [h, esc_next hi, esc_p g]; simp
theorem q_q {l m s : Bs} {i : Nat} (h : m = l ++ 34 :: (s.take i).flatMap escB) (hi : i < s.length) (g : s.getD i 0 = 34 ∨ s.getD i 0 = 92) : m ++ [92] ++ [s.getD i 0] = l ++ 34 :: (s.take (i + 1)).flatMap escB := by
  rw [h, esc_next hi, esc_q g]; simp
theorem q_q2 {l m s : Bs} {i : Nat} (h : m = l ++ 34 :: (s.take i).flatMap escB) (hi : i < s.length) (g : s.getD i 0 = 34 ∨ s.getD i 0 = 92) : m ++ [92, s.getD i 0] = l ++ 34 :: (s.take (i + 1)).flatMap escB := by
  rw [h, esc_next hi, esc_q g]; simp
theorem q_h {l m s : Bs} {i : Nat} (h : m = l ++ 34 :: (s.take i).flatMap escB) (hi : i < s.length) (g : ¬ plB (s.getD i 0) = true) (k : ¬ (s.getD i 0 = 34 ∨ s.getD i 0 = 92)) : m ++ hexS (s.getD i 0) = l ++ 34 :: (s.take (i + 1)).flatMap escB := by
  rw [h, esc_next hi, esc_h g k]; simp
theorem q_end {l m s : Bs} {i : Nat} (h : m = l ++ 34 :: (s.take i).flatMap escB) (hi : i = min s.length 1025) : m ++ [34] = l ++ quoL (s.take 1025) := by
  have : s.take i = s.take 1025 := by
    subst hi
    rcases Nat.le_total s.length 1025 with h1 | h1
    · rw [Nat.min_eq_left h1, List.take_length, List.take_of_length_le h1]
    · rw [Nat.min_eq_right h1]
  rw [h, this, quoL]; simp
theorem hex_next {m m2 x : Bs} {j : Nat} (h : m2 = m ++ x.take j) (hj : j < x.length) : m2 ++ [x.getD j 0] = m ++ x.take (j + 1) := by
  rw [h, List.take_add_one, List.getElem?_eq_getElem hj, List.getD_eq_getElem?_getD, List.getElem?_eq_getElem hj]; simp
theorem hex_hi (c : UInt8) : UInt8.toNat (c >>> UInt8.ofNat 4) < List.length ([48, 49, 50, 51, 52, 53, 54, 55, 56, 57, 97, 98, 99, 100, 101, 102] : Bs) := by
  rw [UInt8.toNat_shiftRight, Nat.shiftRight_eq_div_pow]
  have := UInt8.toNat_lt c
  show c.toNat / 16 < 16
  omega
theorem hex_lo (c : UInt8) : UInt8.toNat (c &&& (15 : UInt8)) < List.length ([48, 49, 50, 51, 52, 53, 54, 55, 56, 57, 97, 98, 99, 100, 101, 102] : Bs) := by
  rw [UInt8.toNat_and]
  exact Nat.lt_of_le_of_lt Nat.and_le_right (by decide)
theorem hex_s (c : UInt8) : ([92, 120, List.getD [48, 49, 50, 51, 52, 53, 54, 55, 56, 57, 97, 98, 99, 100, 101, 102] (UInt8.toNat (c >>> UInt8.ofNat 4)) 0, List.getD [48, 49, 50, 51, 52, 53, 54, 55, 56, 57, 97, 98, 99, 100, 101, 102] (UInt8.toNat (c &&& (15 : UInt8))) 0] : Bs) = hexS c := by
  have h1 : UInt8.toNat (c >>> UInt8.ofNat 4) = c.toNat / 16 := by rw [UInt8.toNat_shiftRight, Nat.shiftRight_eq_div_pow]; rfl
  have h2 : UInt8.toNat (c &&& (15 : UInt8)) = c.toNat % 16 := by rw [UInt8.toNat_and]; exact Nat.and_two_pow_sub_one_eq_mod c.toNat 4
  rw [h1, h2]; rfl
theorem min_n (s : Bs) : (if (1025 : Int) < ((ByteArray.size (bstr s) : Nat) : Int) then (1025 : Int) else ((ByteArray.size (bstr s) : Nat) : Int)) = ((min (List.length s) 1025 : Nat) : Int) := by
  rw [bstr_size]; split <;> omega
theorem u8_34 {c : UInt8} (h : ((UInt8.toNat c : Nat) : Int) = 34) : c = 34 ∨ c = 92 := .inl (UInt8.toNat_inj.1 (by show c.toNat = 34; omega))
theorem u8_92 {c : UInt8} (h : ((UInt8.toNat c : Nat) : Int) = 92) : c = 34 ∨ c = 92 := .inr (UInt8.toNat_inj.1 (by show c.toNat = 92; omega))
theorem u8_n {c : UInt8} (h : ¬ ((UInt8.toNat c : Nat) : Int) = 34) (g : ¬ ((UInt8.toNat c : Nat) : Int) = 92) : ¬ (c = 34 ∨ c = 92) := by
  rintro (rfl | rfl)
  · exact h rfl
  · exact g rfl

theorem quote_go (w : World) (u : Bool) (sb : Nat) (a : Option Addr) (c : Nat) (l s : Bs) (hl : List.length l + 8192 ≤ 70368744177664) (hs : List.length s ≤ 140737488351232) (hH : Heap w [.box sb [bp u sb, .slice a (List.length l) c] 61, .vec a c 1 (bys l) 5]) : Calls Tryd.prog 22 #[.string (bstr s), .func (.func 23) #[pt sb] #[]] w fun e w' => ∃ a' c', e = .returned (.tuple #[]) ∧ Ev w [.box sb [bp u sb, .slice a (List.length l) c] 61, .vec a c 1 (bys l) 5] w' [.box sb [bp true sb, .slice a' (List.length (l ++ quoL (List.take 1025 s))) c'] 61, .vec a' c' 1 (bys (l ++ quoL (List.take 1025 s))) 5] := by
 refine d_0 [(0, .string (bstr s)), (1, .func (.func 23) #[pt sb] #[])] 53 Go.Proofs.Tryd.func22 Go.Proofs.Tryd.ntmps22 (hH) fun act0 En0 Hv0 => ?_
 refine wp_seq ?_
 refine region_from ?_
 refine d_k [0,1,8] [] 1 En0 fun ac1 En2 => ?_
 refine f_o ?_
 refine c_l [0,1] (M := [.box sb [bp u sb, .slice a (List.length l) c] 61, .vec a c 1 (bys l) 5]) En2 Hv0 (fun hM5 => wbyte_go _ u sb a c l (34 : UInt8) (by first | omega | (simp only [List.length_append, List.length_cons, List.length_nil] at *; omega)) hM5) ?_
 rintro _ wo6 ⟨ab3, cb4, rfl, he7⟩
 refine ⟨_, _, [.box sb [bp true sb, .slice ab3 (List.length (l ++ [(34 : UInt8)])) cb4] 61, .vec ab3 cb4 1 (bys (l ++ [(34 : UInt8)])) 5], rfl, he7, by kernel_rfl, fun ac9 En10 Hv11 => ?_⟩
 refine f_e ?_
 refine then_normal ?_
 refine wp_seq ?_
 refine d_s [0,1,12,13] [(2, g_i .i64 (min_n s))] En10 fun ac12 En13 => ?_
 refine wp_block ?_
 refine loop_m (fun ms14 ac wo => ∃ (i : Nat) (a2 : Option Addr) (c2 : Nat) (m : Bs), ms14 = (min (List.length s) 1025 - i : Nat) ∧ Env ac 53 [(0, .string (bstr s)), (1, .func (.func 23) #[pt sb] #[]), (12, .int .i64 ((min (List.length s) 1025 : Nat) : Int)), (13, ni i)] ∧ Ev w [.box sb [bp u sb, .slice a (List.length l) c] 61, .vec a c 1 (bys l) 5] wo [.box sb [bp true sb, .slice a2 (List.length m) c2] 61, .vec a2 c2 1 (bys m) 5] ∧ (i ≤ min (List.length s) 1025) ∧ (m = l ++ 34 :: List.flatMap escB (List.take i s)) ∧ (List.length m ≤ List.length l + 1 + 4 * i)) ⟨_, 0, ab3, cb4, (l ++ [(34 : UInt8)]), rfl, En13.sub (by kernel_rfl), Hv11.pick [0, 1] (by kernel_rfl) (by decide), (Nat.zero_le _), (by simp), (by simp)⟩ ?_
 rintro mm20 ac16 wo17 ⟨i, a2, c2, m, rfl, En18, Hv19, hi, hm, hml⟩
 refine d_s [0,1,12,13,14] [] En18 fun ac21 En22 => ?_
 refine wp_seq ?_
 refine c_d (((i : Nat) : Int) < ((min (List.length s) 1025 : Nat) : Int)) En22 (fun hc23 => ?_) (fun hc23 => ?_)
 ·
  refine wp_skip ?_
  refine then_normal ?_
  refine wp_seq ?_
  refine wp_block ?_
  refine d_s [0,1,4,12,13] [] En22 fun ac24 En25 => ?_
  have hb26 : i < List.length s := by first | omega | exact hex_hi _ | exact hex_lo _
  refine wp_seq ?_
  refine region_from ?_
  refine d_k [0,1,12,13,16,17] [] 2 En25 fun ac27 En28 => ?_
  refine f_o ?_
  refine q_v (x := Instr.index 9 (.string (bstr s)) (ni i)) (v := .int .u8 ((UInt8.toNat (List.getD s i 0) : Nat) : Int)) En28 (Go.Dbr.run_indexstr (s := s) (j := i) (by kernel_rfl) (by omega) hb26 _) fun ac29 En30 => ?_
  refine d_e [0,1,5,12,13] [] En30 fun ac31 En32 => ?_
  refine then_normal ?_
  refine wp_block ?_
  refine wp_seq ?_
  refine wp_block ?_
  refine wp_seq ?_
  refine wp_block ?_
  refine wp_seq ?_
  refine wp_block ?_
  refine wp_seq ?_
  refine wp_seq ?_
  refine wp_seq ?_
  refine region_from ?_
  refine d_k [0,1,5,12,13,22] [] 3 En32 fun ac33 En34 => ?_
  rcases Bool.eq_false_or_eq_true (((UInt8.toNat (List.getD s i 0) : Nat) : Int) == (34 : Int)) with hb35 | hb35
  ·
   have En36 := En34.fx (t := 22) (congrArg Value.bool hb35)
   have hp37 : ((UInt8.toNat (List.getD s i 0) : Nat) : Int) = (34 : Int) := eq_of_beq hb35
   refine d_e [0,1,5,12,13,19] [] En36 fun ac38 En39 => ?_
   refine then_normal ?_
   refine c_t En39 ?_
   refine wp_exit ?_
   refine then_exit ?_
   refine then_exit ?_
   refine block_exit ?_
   refine then_normal ?_
   refine region_from ?_
   refine d_k [0,1,5,12,13,29] [] 1 En39 fun ac40 En41 => ?_
   refine f_o ?_
   refine c_l [0,1] (M := [.box sb [bp true sb, .slice a2 (List.length m) c2] 61, .vec a2 c2 1 (bys m) 5]) En41 Hv19 (fun hM44 => wbyte_go _ true sb a2 c2 m (92 : UInt8) (by first | omega | (simp only [List.length_append, List.length_cons, List.length_nil] at *; omega)) hM44) ?_
   rintro _ wo45 ⟨ab42, cb43, rfl, he46⟩
   refine ⟨_, _, [.box sb [bp true sb, .slice ab42 (List.length (m ++ [(92 : UInt8)])) cb43] 61, .vec ab42 cb43 1 (bys (m ++ [(92 : UInt8)])) 5], rfl, he46, by kernel_rfl, fun ac48 En49 Hv50 => ?_⟩
   refine f_e ?_
   refine block_normal ?_
   refine then_normal ?_
   refine wp_seq ?_
   refine region_from ?_
   refine d_k [0,1,5,12,13,31,32] [] 2 En49 fun ac51 En52 => ?_
   refine f_o ?_
   refine c_l [0,1] (M := [.box sb [bp true sb, .slice ab42 (List.length (m ++ [(92 : UInt8)])) cb43] 61, .vec ab42 cb43 1 (bys (m ++ [(92 : UInt8)])) 5]) En52 Hv50 (fun hM55 => wbyte_go _ true sb ab42 cb43 (m ++ [(92 : UInt8)]) (List.getD s i 0) (by first | omega | (simp only [List.length_append, List.length_cons, List.length_nil] at *; omega)) hM55) ?_
   rintro _ wo56 ⟨ab53, cb54, rfl, he57⟩
   refine ⟨_, _, [.box sb [bp true sb, .slice ab53 (List.length ((m ++ [(92 : UInt8)]) ++ [List.getD s i 0])) cb54] 61, .vec ab53 cb54 1 (bys ((m ++ [(92 : UInt8)]) ++ [List.getD s i 0])) 5], rfl, he57, by kernel_rfl, fun ac59 En60 Hv61 => ?_⟩
   refine f_e ?_
   refine then_normal ?_
   refine wp_exit ?_
   refine block_past (by kernel_rfl) ?_
   refine then_exit ?_
   refine block_exit ?_
   refine block_normal ?_
   refine then_normal ?_
   refine d_r [0,1,5,12,13] [(0, g_n (w_a i 1))] En60 fun ac62 En63 => ?_
   refine then_normal ?_
   refine ⟨_, ⟨i + 1, ab53, cb54, ((m ++ [(92 : UInt8)]) ++ [List.getD s i 0]), rfl, En63.sub (by kernel_rfl), Hv61.pick [0, 1] (by kernel_rfl) (by decide), (by omega), (by first | exact q_p hm (by omega) (by assumption) | exact q_q hm (by omega) (u8_34 (by assumption)) | exact q_q hm (by omega) (u8_92 (by assumption)) | (rw [hm2, show j = 4 from by omega]; exact q_h hm (by omega) (by assumption) (u8_n (by assumption) (by assumption)))), (by first | (simp only [List.length_append, List.length_cons, List.length_nil]; omega) | (have := congrArg List.length hm2; simp [hexS] at this; omega))⟩, ?_⟩
   omega
  ·
   have En64 := En34.fx (t := 22) (congrArg Value.bool hb35)
   have hp65 : ¬ (((UInt8.toNat (List.getD s i 0) : Nat) : Int) = (34 : Int)) := ne_of_beq_false hb35
   refine d_e [0,1,5,12,13,19] [] En64 fun ac66 En67 => ?_
   refine then_normal ?_
   refine c_e ((UInt8.toNat (List.getD s i 0) : Nat) : Int) (92 : Int) En67 (fun hc68 => ?_) (fun hc68 => ?_)
   ·
    refine wp_exit ?_
    refine then_exit ?_
    refine then_exit ?_
    refine block_exit ?_
    refine then_normal ?_
    refine region_from ?_
    refine d_k [0,1,5,12,13,29] [] 1 En67 fun ac69 En70 => ?_
    refine f_o ?_
    refine c_l [0,1] (M := [.box sb [bp true sb, .slice a2 (List.length m) c2] 61, .vec a2 c2 1 (bys m) 5]) En70 Hv19 (fun hM73 => wbyte_go _ true sb a2 c2 m (92 : UInt8) (by first | omega | (simp only [List.length_append, List.length_cons, List.length_nil] at *; omega)) hM73) ?_
    rintro _ wo74 ⟨ab71, cb72, rfl, he75⟩
    refine ⟨_, _, [.box sb [bp true sb, .slice ab71 (List.length (m ++ [(92 : UInt8)])) cb72] 61, .vec ab71 cb72 1 (bys (m ++ [(92 : UInt8)])) 5], rfl, he75, by kernel_rfl, fun ac77 En78 Hv79 => ?_⟩
    refine f_e ?_
    refine block_normal ?_
    refine then_normal ?_
    refine wp_seq ?_
    refine region_from ?_
    refine d_k [0,1,5,12,13,31,32] [] 2 En78 fun ac80 En81 => ?_
    refine f_o ?_
    refine c_l [0,1] (M := [.box sb [bp true sb, .slice ab71 (List.length (m ++ [(92 : UInt8)])) cb72] 61, .vec ab71 cb72 1 (bys (m ++ [(92 : UInt8)])) 5]) En81 Hv79 (fun hM84 => wbyte_go _ true sb ab71 cb72 (m ++ [(92 : UInt8)]) (List.getD s i 0) (by first | omega | (simp only [List.length_append, List.length_cons, List.length_nil] at *; omega)) hM84) ?_
    rintro _ wo85 ⟨ab82, cb83, rfl, he86⟩
    refine ⟨_, _, [.box sb [bp true sb, .slice ab82 (List.length ((m ++ [(92 : UInt8)]) ++ [List.getD s i 0])) cb83] 61, .vec ab82 cb83 1 (bys ((m ++ [(92 : UInt8)]) ++ [List.getD s i 0])) 5], rfl, he86, by kernel_rfl, fun ac88 En89 Hv90 => ?_⟩
    refine f_e ?_
    refine then_normal ?_
    refine wp_exit ?_
    refine block_past (by kernel_rfl) ?_
    refine then_exit ?_
    refine block_exit ?_
    refine block_normal ?_
    refine then_normal ?_
    refine d_r [0,1,5,12,13] [(0, g_n (w_a i 1))] En89 fun ac91 En92 => ?_
    refine then_normal ?_
    refine ⟨_, ⟨i + 1, ab82, cb83, ((m ++ [(92 : UInt8)]) ++ [List.getD s i 0]), rfl, En92.sub (by kernel_rfl), Hv90.pick [0, 1] (by kernel_rfl) (by decide), (by omega), (by first | exact q_p hm (by omega) (by assumption) | exact q_q hm (by omega) (u8_34 (by assumption)) | exact q_q hm (by omega) (u8_92 (by assumption)) | (rw [hm2, show j = 4 from by omega]; exact q_h hm (by omega) (by assumption) (u8_n (by assumption) (by assumption)))), (by first | (simp only [List.length_append, List.length_cons, List.length_nil]; omega) | (have := congrArg List.length hm2; simp [hexS] at this; omega))⟩, ?_⟩
    omega
   ·
    refine wp_skip ?_
    refine then_normal ?_
    refine wp_seq ?_
    refine region_from ?_
    refine d_k [0,1,5,12,13,27] [] 1 En67 fun ac93 En94 => ?_
    refine f_o ?_
    refine c_p En94 Hv19 (plain_go _ (List.getD s i 0)) fun ac99 wo96 En100 Hv101 => ?_
    refine d_e [0,1,5,12,13,26] [] En100 fun ac102 En103 => ?_
    refine then_normal ?_
    refine cond_at En103 (t := plB (List.getD s i 0)) (by kernel_rfl) (fun hc104 => ?_) (fun hc104 => ?_)
    ·
     replace hc104 : plB (List.getD s i 0) = true := hc104
     refine wp_exit ?_
     refine then_exit ?_
     refine block_past (by kernel_rfl) ?_
     refine then_exit ?_
     refine block_exit ?_
     refine then_normal ?_
     refine wp_seq ?_
     refine region_from ?_
     refine d_k [0,1,5,12,13,31,32] [] 2 En103 fun ac105 En106 => ?_
     refine f_o ?_
     refine c_l [0,1] (M := [.box sb [bp true sb, .slice a2 (List.length m) c2] 61, .vec a2 c2 1 (bys m) 5]) En106 Hv101 (fun hM109 => wbyte_go _ true sb a2 c2 m (List.getD s i 0) (by first | omega | (simp only [List.length_append, List.length_cons, List.length_nil] at *; omega)) hM109) ?_
     rintro _ wo110 ⟨ab107, cb108, rfl, he111⟩
     refine ⟨_, _, [.box sb [bp true sb, .slice ab107 (List.length (m ++ [List.getD s i 0])) cb108] 61, .vec ab107 cb108 1 (bys (m ++ [List.getD s i 0])) 5], rfl, he111, by kernel_rfl, fun ac113 En114 Hv115 => ?_⟩
     refine f_e ?_
     refine then_normal ?_
     refine wp_exit ?_
     refine block_past (by kernel_rfl) ?_
     refine then_exit ?_
     refine block_exit ?_
     refine block_normal ?_
     refine then_normal ?_
     refine d_r [0,1,5,12,13] [(0, g_n (w_a i 1))] En114 fun ac116 En117 => ?_
     refine then_normal ?_
     refine ⟨_, ⟨i + 1, ab107, cb108, (m ++ [List.getD s i 0]), rfl, En117.sub (by kernel_rfl), Hv115.pick [0, 1] (by kernel_rfl) (by decide), (by omega), (by first | exact q_p hm (by omega) (by assumption) | exact q_q hm (by omega) (u8_34 (by assumption)) | exact q_q hm (by omega) (u8_92 (by assumption)) | (rw [hm2, show j = 4 from by omega]; exact q_h hm (by omega) (by assumption) (u8_n (by assumption) (by assumption)))), (by first | (simp only [List.length_append, List.length_cons, List.length_nil]; omega) | (have := congrArg List.length hm2; simp [hexS] at this; omega))⟩, ?_⟩
     omega
    ·
     replace hc104 : ¬ (plB (List.getD s i 0) = true) := Bool.eq_false_iff.1 hc104
     refine wp_skip ?_
     refine then_normal ?_
     refine wp_exit ?_
     refine block_past (by kernel_rfl) ?_
     refine then_exit ?_
     refine block_past (by kernel_rfl) ?_
     refine then_exit ?_
     refine block_exit ?_
     refine then_normal ?_
     refine wp_seq ?_
     refine wp_seq ?_
     refine r_c (fun ac wo => ∃ (bk131 : Nat), Env ac 53 [(0, .string (bstr s)), (1, .func (.func 23) #[pt sb] #[]), (5, .int .u8 ((UInt8.toNat (List.getD s i 0) : Nat) : Int)), (12, .int .i64 ((min (List.length s) 1025 : Nat) : Int)), (13, ni i), (40, .slice (some ⟨bk131, 0, none⟩) 4 4), (41, .int .i64 4), (42, .int .i64 0)] ∧ Ev w [.box sb [bp u sb, .slice a (List.length l) c] 61, .vec a c 1 (bys l) 5] wo [.box sb [bp true sb, .slice a2 (List.length m) c2] 61, .vec a2 c2 1 (bys m) 5, .vec (some ⟨bk131, 0, none⟩) 4 1 (bys [(92 : UInt8), (120 : UInt8), List.getD [48, 49, 50, 51, 52, 53, 54, 55, 56, 57, 97, 98, 99, 100, 101, 102] (UInt8.toNat ((List.getD s i 0) >>> UInt8.ofNat 4)) 0, List.getD [48, 49, 50, 51, 52, 53, 54, 55, 56, 57, 97, 98, 99, 100, 101, 102] (UInt8.toNat ((List.getD s i 0) &&& (15 : UInt8))) 0]) 5]) ?_ ?_
     ·
      refine draw_any (by kernel_rfl) 9 (by kernel_rfl) ?_
      have wo118 := Hv101.trans (Ev.drew Hv101.heap)
      have hb138 : UInt8.toNat ((List.getD s i 0) >>> UInt8.ofNat 4) < List.length [48, 49, 50, 51, 52, 53, 54, 55, 56, 57, 97, 98, 99, 100, 101, 102] := by first | omega | exact hex_hi _ | exact hex_lo _
      refine q_a [0,1] [(1, g_i .u8 (Go.Dbr.u8_shr (x := List.getD s i 0) (n := 4) rfl (by decide)))] 7 En103 fun ac139 En140 => ?_
      refine q_g 2 (s := Instr.index 9 (.string (bstr [48, 49, 50, 51, 52, 53, 54, 55, 56, 57, 97, 98, 99, 100, 101, 102])) (.int .u8 ((UInt8.toNat ((List.getD s i 0) >>> UInt8.ofNat 4) : Nat) : Int))) (v := .int .u8 ((UInt8.toNat (List.getD [48, 49, 50, 51, 52, 53, 54, 55, 56, 57, 97, 98, 99, 100, 101, 102] (UInt8.toNat ((List.getD s i 0) >>> UInt8.ofNat 4)) 0) : Nat) : Int)) En140 (fun _ => Go.Dbr.run_indexstr (s := [48, 49, 50, 51, 52, 53, 54, 55, 56, 57, 97, 98, 99, 100, 101, 102]) (j := (UInt8.toNat ((List.getD s i 0) >>> UInt8.ofNat 4))) (by kernel_rfl) (by omega) hb138 _) fun ac141 En142 => ?_
      have hb143 : UInt8.toNat ((List.getD s i 0) &&& (15 : UInt8)) < List.length [48, 49, 50, 51, 52, 53, 54, 55, 56, 57, 97, 98, 99, 100, 101, 102] := by first | omega | exact hex_hi _ | exact hex_lo _
      refine q_a [3,4] [(4, g_i .u8 (Go.Dbr.u8_and (x := List.getD s i 0) (y := (15 : UInt8)) rfl rfl))] 4 En142 fun ac144 En145 => ?_
      refine q_g 5 (s := Instr.index 9 (.string (bstr [48, 49, 50, 51, 52, 53, 54, 55, 56, 57, 97, 98, 99, 100, 101, 102])) (.int .u8 ((UInt8.toNat ((List.getD s i 0) &&& (15 : UInt8)) : Nat) : Int))) (v := .int .u8 ((UInt8.toNat (List.getD [48, 49, 50, 51, 52, 53, 54, 55, 56, 57, 97, 98, 99, 100, 101, 102] (UInt8.toNat ((List.getD s i 0) &&& (15 : UInt8))) 0) : Nat) : Int)) En145 (fun _ => Go.Dbr.run_indexstr (s := [48, 49, 50, 51, 52, 53, 54, 55, 56, 57, 97, 98, 99, 100, 101, 102]) (j := (UInt8.toNat ((List.getD s i 0) &&& (15 : UInt8)))) (by kernel_rfl) (by omega) hb143 _) fun ac146 En147 => ?_
      refine q_a [8] [] 2 En147 fun ac148 En149 => ?_
      refine q_u 6 ?_
      refine op_lit (d := some 40) (t := 59) (T := 5) (m := 4) (parts := #[(0, .int .u8 92), (1, .int .u8 120), (2, .int .u8 ((UInt8.toNat (List.getD [48, 49, 50, 51, 52, 53, 54, 55, 56, 57, 97, 98, 99, 100, 101, 102] (UInt8.toNat ((List.getD s i 0) >>> UInt8.ofNat 4)) 0) : Nat) : Int)), (3, .int .u8 ((UInt8.toNat (List.getD [48, 49, 50, 51, 52, 53, 54, 55, 56, 57, 97, 98, 99, 100, 101, 102] (UInt8.toNat ((List.getD s i 0) &&& (15 : UInt8))) 0) : Nat) : Int))]) (xs := bys [(92 : UInt8), (120 : UInt8), List.getD [48, 49, 50, 51, 52, 53, 54, 55, 56, 57, 97, 98, 99, 100, 101, 102] (UInt8.toNat ((List.getD s i 0) >>> UInt8.ofNat 4)) 0, List.getD [48, 49, 50, 51, 52, 53, 54, 55, 56, 57, 97, 98, 99, 100, 101, 102] (UInt8.toNat ((List.getD s i 0) &&& (15 : UInt8))) 0]) (sz := 1) En149 (by kernel_rfl) (by kernel_rfl) rfl (by decide) wo118 ?_
      intro ac151 wo152 bk150 En153 Hv154
      refine q_a [7] [] 0 En153 fun ac155 En156 => ?_
      exact a_e ⟨bk150, En156.sub (by kernel_rfl), Hv154.pick [0, 1, 2] (by kernel_rfl) (by decide)⟩
     rintro ac157 wo158 ⟨bk131, En159, Hv160⟩
     refine then_normal ?_
     refine wp_block ?_
     refine loop_m (fun ms161 ac wo => ∃ (j : Nat) (a3 : Option Addr) (c3 : Nat) (m2 : Bs), ms161 = (4 - j : Nat) ∧ Env ac 53 [(0, .string (bstr s)), (1, .func (.func 23) #[pt sb] #[]), (5, .int .u8 ((UInt8.toNat (List.getD s i 0) : Nat) : Int)), (12, .int .i64 ((min (List.length s) 1025 : Nat) : Int)), (13, ni i), (40, .slice (some ⟨bk131, 0, none⟩) 4 4), (41, .int .i64 4), (42, ni j)] ∧ Ev w [.box sb [bp u sb, .slice a (List.length l) c] 61, .vec a c 1 (bys l) 5] wo [.box sb [bp true sb, .slice a3 (List.length m2) c3] 61, .vec a3 c3 1 (bys m2) 5, .vec (some ⟨bk131, 0, none⟩) 4 1 (bys [(92 : UInt8), (120 : UInt8), List.getD [48, 49, 50, 51, 52, 53, 54, 55, 56, 57, 97, 98, 99, 100, 101, 102] (UInt8.toNat ((List.getD s i 0) >>> UInt8.ofNat 4)) 0, List.getD [48, 49, 50, 51, 52, 53, 54, 55, 56, 57, 97, 98, 99, 100, 101, 102] (UInt8.toNat ((List.getD s i 0) &&& (15 : UInt8))) 0]) 5] ∧ (j ≤ 4) ∧ (m2 = m ++ List.take j (hexS (s.getD i 0))) ∧ (List.length m2 ≤ List.length m + j)) ⟨_, 0, a2, c2, m, rfl, En159.sub (by kernel_rfl), Hv160.pick [0, 1, 2] (by kernel_rfl) (by decide), (Nat.zero_le _), (by simp), (Nat.le_refl _)⟩ ?_
     rintro mm167 ac163 wo164 ⟨j, a3, c3, m2, rfl, En165, Hv166, hj, hm2, hm2l⟩
     refine d_s [0,1,5,12,13,40,41,42,43] [] En165 fun ac168 En169 => ?_
     refine wp_seq ?_
     refine c_d (((j : Nat) : Int) < (4 : Int)) En169 (fun hc170 => ?_) (fun hc170 => ?_)
     ·
      refine wp_skip ?_
      refine then_normal ?_
      refine wp_seq ?_
      refine wp_block ?_
      have hb173 : j < 4 := (by omega)
      refine wp_seq ?_
      refine region_from ?_
      refine f_o ?_
      refine q_v (x := Instr.indexAt 59 (.slice (some ⟨bk131, 0, none⟩) 4 4) (ni j)) (v := .pointer (some (Addr.add ⟨bk131, 0, none⟩ j))) En169 (Go.Dbr.run_indexsl (e := 5) (sz := 1) (j := j) (jo := j) rfl (by kernel_rfl) (by kernel_rfl) (by omega) hb173 (Nat.mul_one _) _) fun ac174 En175 => ?_
      refine f_o ?_
      have hb176 : j < List.length [(92 : UInt8), (120 : UInt8), List.getD [48, 49, 50, 51, 52, 53, 54, 55, 56, 57, 97, 98, 99, 100, 101, 102] (UInt8.toNat ((List.getD s i 0) >>> UInt8.ofNat 4)) 0, List.getD [48, 49, 50, 51, 52, 53, 54, 55, 56, 57, 97, 98, 99, 100, 101, 102] (UInt8.toNat ((List.getD s i 0) &&& (15 : UInt8))) 0] := by omega
      refine op_loadel (d := some 45) (t := 5) (ad := ⟨bk131, 0, none⟩) (ao := some ⟨bk131, 0, none⟩) (xs := bys [(92 : UInt8), (120 : UInt8), List.getD [48, 49, 50, 51, 52, 53, 54, 55, 56, 57, 97, 98, 99, 100, 101, 102] (UInt8.toNat ((List.getD s i 0) >>> UInt8.ofNat 4)) 0, List.getD [48, 49, 50, 51, 52, 53, 54, 55, 56, 57, 97, 98, 99, 100, 101, 102] (UInt8.toNat ((List.getD s i 0) &&& (15 : UInt8))) 0]) (j := j) (v := .int .u8 ((UInt8.toNat (List.getD [(92 : UInt8), (120 : UInt8), List.getD [48, 49, 50, 51, 52, 53, 54, 55, 56, 57, 97, 98, 99, 100, 101, 102] (UInt8.toNat ((List.getD s i 0) >>> UInt8.ofNat 4)) 0, List.getD [48, 49, 50, 51, 52, 53, 54, 55, 56, 57, 97, 98, 99, 100, 101, 102] (UInt8.toNat ((List.getD s i 0) &&& (15 : UInt8))) 0] j 0) : Nat) : Int)) En175 (by kernel_rfl) (Hv166.heap.reads (k := 2) rfl) rfl (bys_getD hb176) (by kernel_rfl) ?_
      intro ac177 En178
      refine d_e [0,1,5,7,12,13,40,41,42] [] En178 fun ac179 En180 => ?_
      refine then_normal ?_
      refine region_from ?_
      refine d_k [0,1,5,12,13,40,41,42,46,47] [] 2 En180 fun ac181 En182 => ?_
      refine f_o ?_
      refine c_l [0,1] (M := [.box sb [bp true sb, .slice a3 (List.length m2) c3] 61, .vec a3 c3 1 (bys m2) 5]) En182 Hv166 (fun hM185 => wbyte_go _ true sb a3 c3 m2 (List.getD [(92 : UInt8), (120 : UInt8), List.getD [48, 49, 50, 51, 52, 53, 54, 55, 56, 57, 97, 98, 99, 100, 101, 102] (UInt8.toNat ((List.getD s i 0) >>> UInt8.ofNat 4)) 0, List.getD [48, 49, 50, 51, 52, 53, 54, 55, 56, 57, 97, 98, 99, 100, 101, 102] (UInt8.toNat ((List.getD s i 0) &&& (15 : UInt8))) 0] j 0) (by first | omega | (simp only [List.length_append, List.length_cons, List.length_nil] at *; omega)) hM185) ?_
      rintro _ wo186 ⟨ab183, cb184, rfl, he187⟩
      refine ⟨_, _, [.box sb [bp true sb, .slice ab183 (List.length (m2 ++ [List.getD [(92 : UInt8), (120 : UInt8), List.getD [48, 49, 50, 51, 52, 53, 54, 55, 56, 57, 97, 98, 99, 100, 101, 102] (UInt8.toNat ((List.getD s i 0) >>> UInt8.ofNat 4)) 0, List.getD [48, 49, 50, 51, 52, 53, 54, 55, 56, 57, 97, 98, 99, 100, 101, 102] (UInt8.toNat ((List.getD s i 0) &&& (15 : UInt8))) 0] j 0])) cb184] 61, .vec ab183 cb184 1 (bys (m2 ++ [List.getD [(92 : UInt8), (120 : UInt8), List.getD [48, 49, 50, 51, 52, 53, 54, 55, 56, 57, 97, 98, 99, 100, 101, 102] (UInt8.toNat ((List.getD s i 0) >>> UInt8.ofNat 4)) 0, List.getD [48, 49, 50, 51, 52, 53, 54, 55, 56, 57, 97, 98, 99, 100, 101, 102] (UInt8.toNat ((List.getD s i 0) &&& (15 : UInt8))) 0] j 0])) 5, .vec (some ⟨bk131, 0, none⟩) 4 1 (bys [(92 : UInt8), (120 : UInt8), List.getD [48, 49, 50, 51, 52, 53, 54, 55, 56, 57, 97, 98, 99, 100, 101, 102] (UInt8.toNat ((List.getD s i 0) >>> UInt8.ofNat 4)) 0, List.getD [48, 49, 50, 51, 52, 53, 54, 55, 56, 57, 97, 98, 99, 100, 101, 102] (UInt8.toNat ((List.getD s i 0) &&& (15 : UInt8))) 0]) 5], rfl, he187, by kernel_rfl, fun ac189 En190 Hv191 => ?_⟩
      refine f_e ?_
      refine block_normal ?_
      refine then_normal ?_
      refine d_r [0,1,5,12,13,40,41,42] [(0, g_n (w_a j 1))] En190 fun ac192 En193 => ?_
      refine then_normal ?_
      refine ⟨_, ⟨j + 1, ab183, cb184, (m2 ++ [List.getD [(92 : UInt8), (120 : UInt8), List.getD [48, 49, 50, 51, 52, 53, 54, 55, 56, 57, 97, 98, 99, 100, 101, 102] (UInt8.toNat ((List.getD s i 0) >>> UInt8.ofNat 4)) 0, List.getD [48, 49, 50, 51, 52, 53, 54, 55, 56, 57, 97, 98, 99, 100, 101, 102] (UInt8.toNat ((List.getD s i 0) &&& (15 : UInt8))) 0] j 0]), rfl, En193.sub (by kernel_rfl), Hv191.pick [0, 1, 2] (by kernel_rfl) (by decide), (by omega), (by rw [hex_s]; exact hex_next hm2 (by simp [hexS]; omega)), (by simp only [List.length_append, List.length_cons, List.length_nil]; omega)⟩, ?_⟩
      omega
     ·
      refine wp_exit ?_
      refine then_exit ?_
      refine then_exit ?_
      refine block_exit ?_
      refine then_normal ?_
      refine wp_exit ?_
      refine block_exit ?_
      refine block_normal ?_
      refine then_normal ?_
      refine d_r [0,1,5,12,13,40,41,42] [(0, g_n (w_a i 1))] En169 fun ac194 En195 => ?_
      refine then_normal ?_
      refine ⟨_, ⟨i + 1, a3, c3, m2, rfl, En195.sub (by kernel_rfl), Hv166.pick [0, 1] (by kernel_rfl) (by decide), (by omega), (by first | exact q_p hm (by omega) (by assumption) | exact q_q hm (by omega) (u8_34 (by assumption)) | exact q_q hm (by omega) (u8_92 (by assumption)) | (rw [hm2, show j = 4 from by omega]; exact q_h hm (by omega) (by assumption) (u8_n (by assumption) (by assumption)))), (by first | (simp only [List.length_append, List.length_cons, List.length_nil]; omega) | (have := congrArg List.length hm2; simp [hexS] at this; omega))⟩, ?_⟩
      omega
 ·
  refine wp_exit ?_
  refine then_exit ?_
  refine then_exit ?_
  refine block_exit ?_
  refine then_normal ?_
  refine region_from ?_
  refine d_k [0,1,12,13,51] [] 1 En22 fun ac196 En197 => ?_
  refine f_o ?_
  refine c_l [0,1] (M := [.box sb [bp true sb, .slice a2 (List.length m) c2] 61, .vec a2 c2 1 (bys m) 5]) En197 Hv19 (fun hM200 => wbyte_go _ true sb a2 c2 m (34 : UInt8) (by first | omega | (simp only [List.length_append, List.length_cons, List.length_nil] at *; omega)) hM200) ?_
  rintro _ wo201 ⟨ab198, cb199, rfl, he202⟩
  refine ⟨_, _, [.box sb [bp true sb, .slice ab198 (List.length (m ++ [(34 : UInt8)])) cb199] 61, .vec ab198 cb199 1 (bys (m ++ [(34 : UInt8)])) 5], rfl, he202, by kernel_rfl, fun ac204 En205 Hv206 => ?_⟩
  refine f_e ?_
  refine d_end0 En205 (by kernel_rfl) ?_
  rw [show m ++ [34] = l ++ quoL (List.take 1025 s) from q_end hm (by omega)] at Hv206
  exact ⟨ab198, cb199, rfl, Hv206.pick [0, 1] (by kernel_rfl) (by decide)⟩

end Go.Proofs.YtfcfgbejpcmmkaaDoor
