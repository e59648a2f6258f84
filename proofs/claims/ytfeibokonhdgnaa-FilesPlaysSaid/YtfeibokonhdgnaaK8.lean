/- Layer 2: FilesFull, walked. -/
import Derived.Test.YtfeibokonhdgnaaK5
import Derived.Test.YtfeibokonhdgnaaK7
import Derived.Test.YtfeibokonhdgnaaI64
namespace Go.Proofs.Ytfeibokonhdgnaa
open Go.Dbr
set_option maxRecDepth 100000
set_option maxHeartbeats 2000000
set_option linter.unusedVariables false
set_option linter.unusedSimpArgs false

theorem kvFind_mem {α : Type} {k : Bs} : ∀ {m : List (Bs × α)} {i : Nat}, (kvFind k m i).isSome = decide (k ∈ m.map (·.1))
  | [], i => by simp [kvFind]
  | p :: r, i => by
    unfold kvFind
    by_cases h : k = p.1
    · rw [if_pos h]; simp [h]
    · rw [if_neg h, kvFind_mem]; simp [h]
theorem kvAt_mem {α : Type} {k : Bs} {m : List (Bs × α)} : (kvAt m k).isSome = decide (k ∈ m.map (·.1)) := by rw [kvAt, Option.isSome_map, kvFind_mem]
theorem put_keys {α : Type} {k : Bs} {v : α} : ∀ {m : List (Bs × α)}, k ∉ m.map (·.1) → (kvPut k v m).map (·.1) = m.map (·.1) ++ [k]
  | [], _ => rfl
  | p :: r, h => by
    simp only [List.map_cons, List.mem_cons, not_or] at h
    unfold kvPut
    rw [if_neg h.1, List.map_cons, List.map_cons, put_keys h.2]
    rfl
def fkey (i : Nat) : Bs := [102, UInt8.ofNat (97 + i / 26), UInt8.ofNat (97 + i % 26)]
def fkeys (n : Nat) : List Bs := (List.range n).map fkey
theorem fkey_inj : ∀ i, i < 68 → ∀ j, j < 68 → fkey i = fkey j → i = j := by decide +kernel
theorem fkey_nm : ∀ i, i < 68 → nmL (fkey i) = true := by decide +kernel
theorem fkey_not {i n : Nat} (hi : i < 68) (hn : n ≤ i) : fkey i ∉ fkeys n := fun h => by
  obtain ⟨j, hj, e⟩ := List.mem_map.1 h
  have hj := List.mem_range.1 hj
  have := fkey_inj j (by omega) i hi e
  omega
theorem fkey_in {i n : Nat} (hn : i < n) : fkey i ∈ fkeys n := List.mem_map.2 ⟨i, List.mem_range.2 hn, rfl⟩
theorem keys_len {m : FM} {n : Nat} (h : m.map (·.1) = fkeys n) : m.length = n := by
  have := congrArg List.length h
  simpa [fkeys] using this
theorem keys_small {m : FM} {n : Nat} (h : m.map (·.1) = fkeys n) : ∀ p ∈ m, p.1.length ≤ 32 := fun p hp => by
  have h1 : p.1 ∈ m.map (·.1) := List.mem_map.2 ⟨p, hp, rfl⟩
  rw [h] at h1
  obtain ⟨j, _, e⟩ := List.mem_map.1 h1
  rw [← e]
  exact (by decide : 3 ≤ 32)
theorem fm_0 {m : FM} {i n : Nat} (h : m.map (·.1) = fkeys (min i 64)) (hi : i < 64) (hb : n ≤ 65536) : mayI (fkey i) n m = 0 := may_4 (fkey_nm i (by omega)) (by omega) (by rw [keys_len h]; omega)
theorem fm_24 {m : FM} {i n : Nat} (h : m.map (·.1) = fkeys (min i 64)) (hi : 64 ≤ i) (h2 : i < 68) (hb : n ≤ 65536) : mayI (fkey i) n m = 24 :=
  may_3 (fkey_nm i h2) (by omega) (by rw [kvAt_mem, h, decide_eq_false (fkey_not h2 (by omega))]; decide) (by rw [keys_len h]; omega)
theorem fm_faa {m : FM} {k : Nat} (h : m.map (·.1) = fkeys (min k 64)) (hk : ¬ k = 0) : mayI [102, 97, 97] 0 m = 0 :=
  may_5 (by decide) (by decide) (by rw [kvAt_mem, h]; exact decide_eq_true (fkey_in (i := 0) (by omega)))
theorem fk_next {m : FM} {i : Nat} {v : FV} (h : m.map (·.1) = fkeys (min i 64)) (hi : i < 64) : (kvPut (fkey i) v m).map (·.1) = fkeys (min (i + 1) 64) := by
  rw [put_keys (by rw [h]; exact fkey_not (by omega) (by omega)), h, Nat.min_eq_left (by omega), Nat.min_eq_left (by omega), fkeys, fkeys, List.range_succ, List.map_append]
  rfl
theorem fk_stay {m : FM} {i : Nat} (h : m.map (·.1) = fkeys (min i 64)) (hi : 64 ≤ i) : m.map (·.1) = fkeys (min (i + 1) 64) := by
  rw [h, Nat.min_eq_right hi, Nat.min_eq_right (by omega)]

theorem full_walk (more : UInt8) (a_b : Option Addr) (c_b : Nat) (b : List UInt8) (w : World) (i_b : InB w [] a_b c_b b) (s_b : List.length b ≤ 140737488351232) : Calls Try.prog 5 #[bv more, .slice a_b (List.length b) c_b] w fun e w' => e = .returned (.bool true) ∧ Ev w [] w' [] := by
 have hbs := i_b.small
 have hmo := more.toNat_lt
 refine d_0 [(0, bv more), (1, .slice a_b (List.length b) c_b)] 80 Go.Proofs.Try.func5 Go.Proofs.Try.ntmps5 (Heap.nil _) fun act0 En0 Hv0 => ?_
 refine wp_seq ?_
 refine d_r [0,1,4] [] En0 fun ac1 En2 => ?_
 refine then_normal ?_
 refine wp_seq ?_
 refine region_from ?_
 refine f_o ?_
 refine c_p En2 Hv0 (head_ok _) fun ac7 wo4 En8 Hv9 => ?_
 refine d_e [0,1,4,5] [] En8 fun ac10 En11 => ?_
 refine then_normal ?_
 refine wp_seq ?_
 refine region_from ?_
 refine f_o ?_
 refine c_0 En11 Hv9 (new_go _) ?_
 rintro _ wo15 ⟨sb12, mb13, rfl, he16⟩
 refine ⟨_, _, _, rfl, he16, rfl, fun ac18 En19 Hv20 => ?_⟩
 refine d_e [0,1,4,5,6] [] En19 fun ac21 En22 => ?_
 refine then_normal ?_
 refine wp_seq ?_
 refine wp_seq ?_
 refine d_r [0,1,4,5,6,23] [] En22 fun ac23 En24 => ?_
 refine then_normal ?_
 refine c_d (((List.length b : Nat) : Int) > (65536 : Int)) En24 (fun hc25 => ?_) (fun hc25 => ?_)
 ·
  refine wp_seq ?_
  refine d_r [0,1,4,5,6] [] En24 fun ac26 En27 => ?_
  refine then_normal ?_
  refine wp_ret ?_
  refine then_ret ?_
  refine d_ret1 (t := 4) (v := .bool true) En27 (by kernel_rfl) (by kernel_rfl) ?_
  exact ⟨rfl, Hv20.pick [] (by kernel_rfl) (by decide)⟩
 ·
  refine wp_skip ?_
  refine then_normal ?_
  refine wp_seq ?_
  refine d_r [1,4,5,6,7] [(1, g_i .i64 (Go.Dbr.u8_to_i64 (x := more) rfl)), (2, g_i .i64 (show Int.tmod ((UInt8.toNat more : Nat) : Int) (68 : Int) = (((UInt8.toNat more) % 68 : Nat) : Int) from Go.Dbr.i64_rem_nat (a := ((UInt8.toNat more : Nat) : Int)) (n := UInt8.toNat more) (m := 68) rfl (by omega)))] En24 fun ac28 En29 => ?_
  refine then_normal ?_
  refine wp_seq ?_
  refine wp_seq ?_
  refine d_r [1,4,5,6,7,8] [] En29 fun ac30 En31 => ?_
  refine then_normal ?_
  refine wp_block ?_
  refine loop_m (fun ms32 ac wo => ∃ (i : Nat) (m : FM), ms32 = (UInt8.toNat more % 68 - i : Nat) ∧ Env ac 80 [(1, .slice a_b (List.length b) c_b), (5, .bool true), (6, pt sb12), (7, .int .i64 (((UInt8.toNat more) % 68 : Nat) : Int)), (8, ni i)] ∧ Ev w [] wo [.box sb12 [.map (some mb13)] 52, .map mb13 (kvs FV.v m)] ∧ (i ≤ UInt8.toNat more % 68) ∧ (List.map (fun p => p.1) m = fkeys (min i 64))) ⟨_, 0, [], rfl, En31.sub (by kernel_rfl), Hv20.pick [0, 1] (by kernel_rfl) (by decide), (Nat.zero_le _), rfl⟩ ?_
  rintro mm38 ac34 wo35 ⟨i, m, rfl, En36, Hv37, hik, hkeys⟩
  refine wp_seq ?_
  refine wp_seq ?_
  have hkm : UInt8.toNat more % 68 < 68 := Nat.mod_lt _ (by decide)
  refine d_r [1,5,6,7,8,34] [] En36 fun ac39 En40 => ?_
  refine then_normal ?_
  refine c_d (((i : Nat) : Int) < (((UInt8.toNat more) % 68 : Nat) : Int)) En40 (fun hc41 => ?_) (fun hc41 => ?_)
  ·
   refine wp_skip ?_
   refine then_normal ?_
   refine wp_seq ?_
   refine wp_block ?_
   refine wp_seq ?_
   refine region_from ?_
   refine d_k [1,5,6,7,8,40,44] [(1, g_i .i64 (show IntKind.wrap .i64 (Int.tdiv ((i : Nat) : Int) (26 : Int)) = ((i / 26 : Nat) : Int) from Go.Dbr.i64_quo_nat (a := ((i : Nat) : Int)) (n := i) (m := 26) rfl (by omega))), (2, g_n (w_a 97 (i / 26))), (3, g_i .u8 (Go.Dbr.nat_to_u8 (a := ((97 + (i / 26) : Nat) : Int)) (n := 97 + (i / 26)) rfl)), (5, g_i .i64 (show Int.tmod ((i : Nat) : Int) (26 : Int) = ((i % 26 : Nat) : Int) from Go.Dbr.i64_rem_nat (a := ((i : Nat) : Int)) (n := i) (m := 26) rfl (by omega))), (6, g_n (w_a 97 (i % 26))), (7, g_i .u8 (Go.Dbr.nat_to_u8 (a := ((97 + (i % 26) : Nat) : Int)) (n := 97 + (i % 26)) rfl))] 8 En40 fun ac42 En43 => ?_
   refine f_o ?_
   refine op_lit (d := some 45) (t := 22) (T := 5) (m := 2) (parts := #[(0, .int .u8 ((UInt8.toNat (UInt8.ofNat (97 + (i / 26))) : Nat) : Int)), (1, .int .u8 ((UInt8.toNat (UInt8.ofNat (97 + (i % 26))) : Nat) : Int))]) (xs := bys [UInt8.ofNat (97 + (i / 26)), UInt8.ofNat (97 + (i % 26))]) (sz := 1) En43 (by kernel_rfl) (by kernel_rfl) rfl (by decide) Hv37 ?_
   intro ac45 wo46 bk44 En47 Hv48
   refine f_o ?_
   refine op_str (d := some 46) (src := 22) (dst := 9) (e := 5) (ao := some ⟨bk44, 0, none⟩) (cap := 2) (p := 2) (bs := [UInt8.ofNat (97 + (i / 26)), UInt8.ofNat (97 + (i % 26))]) En47 (by kernel_rfl) (by first | (simp; done) | (simp; omega) | omega) (by kernel_rfl) (by kernel_rfl) (by kernel_rfl) (Hv48.heap.reads (k := 2) rfl) (fun e => by cases e) ?_
   intro ac49 En50
   refine f_o ?_
   refine q_v (x := Op.stringOp .add (bstr [102]) (bstr [UInt8.ofNat (97 + (i / 26)), UInt8.ofNat (97 + (i % 26))])) (v := .string (bstr ([102] ++ [UInt8.ofNat (97 + (i / 26)), UInt8.ofNat (97 + (i % 26))]))) En50 (Go.Dbr.run_add_str [102] [UInt8.ofNat (97 + (i / 26)), UInt8.ofNat (97 + (i % 26))] (by first | (simp; done) | (simp; omega) | omega) _) fun ac51 En52 => ?_
   refine d_e [1,5,6,7,8,9] [] En52 fun ac53 En54 => ?_
   refine then_normal ?_
   refine wp_seq ?_
   refine region_from ?_
   refine d_k [1,5,6,7,8,48,49,50] [] 3 En54 fun ac55 En56 => ?_
   rcases Nat.lt_or_ge i 64 with h64 | h64
   ·
    refine f_o ?_
    refine c_l [0,1] (M := [.box sb12 [.map (some mb13)] 52, .map mb13 (kvs FV.v m)]) En56 Hv48 (fun hM59 => put_ok _ sb12 mb13 m ([102] ++ [UInt8.ofNat (97 + (i / 26)), UInt8.ofNat (97 + (i % 26))]) (by first | assumption | omega | decide | (simp; done)) a_b c_b b ((i_b.ev Hv48).pick [0, 1] (by kernel_rfl)) (fm_0 hkeys h64 (by omega)) hM59) ?_
    rintro _ wo60 ⟨ao57, co58, rfl, he61⟩
    refine ⟨_, _, [.box sb12 [.map (some mb13)] 52, .map mb13 (kvs FV.v (kvPut ([102] ++ [UInt8.ofNat (97 + (i / 26)), UInt8.ofNat (97 + (i % 26))]) ⟨ao57, List.length b, co58, none, 0, 0, false, 0⟩ m)), .vec ao57 co58 1 (bys b) 5, .vec (some ⟨bk44, 0, none⟩) 2 1 (bys [UInt8.ofNat (97 + (i / 26)), UInt8.ofNat (97 + (i % 26))]) 5], rfl, he61, by kernel_rfl, fun ac63 En64 Hv65 => ?_⟩
    refine d_e [1,5,6,7,8,10] [] En64 fun ac66 En67 => ?_
    refine then_normal ?_
    refine wp_seq ?_
    refine d_r [1,5,6,7,8,64] [(3, g_b (show (decide (((i : Nat) : Int) < (64 : Int))) = true from (decide_eq_true (by omega)))), (7, g_b (show (decide (((i : Nat) : Int) ≥ (64 : Int))) = false from (decide_eq_false (by omega))))] En67 fun ac68 En69 => ?_
    refine then_normal ?_
    refine c_f En69 ?_
    refine wp_skip ?_
    refine block_normal ?_
    refine then_normal ?_
    refine d_r [1,5,6,7,8] [(1, g_n (w_a i 1))] En69 fun ac70 En71 => ?_
    refine then_normal ?_
    refine ⟨_, ⟨i + 1, (kvPut ([102] ++ [UInt8.ofNat (97 + (i / 26)), UInt8.ofNat (97 + (i % 26))]) ⟨ao57, List.length b, co58, none, 0, 0, false, 0⟩ m), rfl, En71.sub (by kernel_rfl), Hv65.pick [0, 1] (by kernel_rfl) (by decide), (by omega), (fk_next hkeys h64)⟩, ?_⟩
    omega
   ·
    refine f_o ?_
    refine c_l [0,1] (M := [.box sb12 [.map (some mb13)] 52, .map mb13 (kvs FV.v m)]) En56 Hv48 (fun hM72 => put_bad _ sb12 mb13 m ([102] ++ [UInt8.ofNat (97 + (i / 26)), UInt8.ofNat (97 + (i % 26))]) (by first | assumption | omega | decide | (simp; done)) a_b c_b b ((i_b.ev Hv48).pick [0, 1] (by kernel_rfl)) (by have h := fm_24 (n := List.length b) hkeys h64 (by omega) (by omega); intro g; exact absurd (h.symm.trans g) (by decide)) hM72) ?_
    rintro _ wo73 ⟨rfl, he74⟩
    refine ⟨_, _, [.box sb12 [.map (some mb13)] 52, .map mb13 (kvs FV.v m), .vec (some ⟨bk44, 0, none⟩) 2 1 (bys [UInt8.ofNat (97 + (i / 26)), UInt8.ofNat (97 + (i % 26))]) 5], rfl, he74, by kernel_rfl, fun ac76 En77 Hv78 => ?_⟩
    refine d_e [1,5,6,7,8,10] [] En77 fun ac79 En80 => ?_
    refine then_normal ?_
    refine wp_seq ?_
    refine d_r [1,5,6,7,8,64] [(1, g_b (show (mayI ([102] ++ [UInt8.ofNat (97 + (i / 26)), UInt8.ofNat (97 + (i % 26))]) (List.length b) m == (0 : Int)) = false from (beq_eq_false_iff_ne.2 (by intro g; exact absurd ((fm_24 (n := List.length b) hkeys h64 (by omega) (by omega)).symm.trans g) (by decide))))), (3, g_b (show (decide (((i : Nat) : Int) < (64 : Int))) = false from (decide_eq_false (by omega)))), (7, g_b (show (decide (((i : Nat) : Int) ≥ (64 : Int))) = true from (decide_eq_true (by omega)))), (10, g_b (show (mayI ([102] ++ [UInt8.ofNat (97 + (i / 26)), UInt8.ofNat (97 + (i % 26))]) (List.length b) m != (24 : Int)) = false from (by rw [bne, Bool.not_eq_false']; exact beq_iff_eq.2 (fm_24 (n := List.length b) hkeys h64 (by omega) (by omega)))))] En80 fun ac81 En82 => ?_
    refine then_normal ?_
    refine c_f En82 ?_
    refine wp_skip ?_
    refine block_normal ?_
    refine then_normal ?_
    refine d_r [1,5,6,7,8] [(1, g_n (w_a i 1))] En82 fun ac83 En84 => ?_
    refine then_normal ?_
    refine ⟨_, ⟨i + 1, m, rfl, En84.sub (by kernel_rfl), Hv78.pick [0, 1] (by kernel_rfl) (by decide), (by omega), (fk_stay hkeys h64)⟩, ?_⟩
    omega
  ·
   refine wp_exit ?_
   refine then_exit ?_
   refine then_exit ?_
   refine block_exit ?_
   refine then_normal ?_
   refine wp_seq ?_
   have hie : i = UInt8.toNat more % 68 := by omega
   rw [hie] at hkeys
   have hnl : List.length (sortK m) = min (UInt8.toNat more % 68) 64 := by rw [sortK_len, keys_len hkeys]
   refine region_from ?_
   refine d_k [1,5,6,7,8,65] [] 1 En40 fun ac85 En86 => ?_
   refine f_o ?_
   refine c_l [0,1] (M := [.box sb12 [.map (some mb13)] 52, .map mb13 (kvs FV.v m)]) En86 Hv37 (fun hM89 => names_go _ sb12 mb13 m (keys_small hkeys) (by rw [keys_len hkeys]; omega) hM89) ?_
   rintro _ wo90 ⟨ao87, co88, rfl, he91⟩
   refine ⟨_, _, [.box sb12 [.map (some mb13)] 52, .map mb13 (kvs FV.v m), .vec ao87 co88 1 (List.flatMap (fun l : List UInt8 => [.string (bstr l)]) (sortK m)) 9], rfl, he91, by kernel_rfl, fun ac93 En94 Hv95 => ?_⟩
   refine d_k [1,5,6,7,8,71,74] [(5, g_b (show (((List.length (sortK m) : Nat) : Int) == if (64 : Int) < (((UInt8.toNat more) % 68 : Nat) : Int) then (64 : Int) else (((UInt8.toNat more) % 68 : Nat) : Int)) = true from (by rw [beq_iff_eq, hnl]; split <;> omega)))] 10 En94 fun ac96 En97 => ?_
   rcases Bool.eq_false_or_eq_true ((((UInt8.toNat more) % 68 : Nat) : Int) == (0 : Int)) with hb98 | hb98
   ·
    have En99 := En97.fx (t := 74) (congrArg Value.bool hb98)
    have hp100 : (((UInt8.toNat more) % 68 : Nat) : Int) = (0 : Int) := eq_of_beq hb98
    refine d_e [1,4,5,6,7,8] [] En99 fun ac101 En102 => ?_
    refine then_normal ?_
    refine wp_ret ?_
    refine d_ret1 (t := 4) (v := .bool true) En102 (by kernel_rfl) (by kernel_rfl) ?_
    exact ⟨rfl, Hv95.pick [] (by kernel_rfl) (by decide)⟩
   ·
    have En103 := En97.fx (t := 74) (congrArg Value.bool hb98)
    have hp104 : ¬ ((((UInt8.toNat more) % 68 : Nat) : Int) = (0 : Int)) := ne_of_beq_false hb98
    refine d_k [1,5,6,7,8,71,74,75] [] 11 En103 fun ac105 En106 => ?_
    refine f_o ?_
    refine c_l [0,1] (M := [.box sb12 [.map (some mb13)] 52, .map mb13 (kvs FV.v m)]) En106 Hv95 (fun hM109 => put_ok _ sb12 mb13 m [102, 97, 97] (by first | assumption | omega | decide | (simp; done)) none 0 ([] : Bs) (InB.nil _ _) (fm_faa hkeys (by omega)) hM109) ?_
    rintro _ wo110 ⟨ao107, co108, rfl, he111⟩
    refine ⟨_, _, [.box sb12 [.map (some mb13)] 52, .map mb13 (kvs FV.v (kvPut [102, 97, 97] ⟨ao107, List.length ([] : Bs), co108, none, 0, 0, false, 0⟩ m)), .vec ao107 co108 1 (bys ([] : Bs)) 5, .vec ao87 co88 1 (List.flatMap (fun l : List UInt8 => [.string (bstr l)]) (sortK m)) 9], rfl, he111, by kernel_rfl, fun ac113 En114 Hv115 => ?_⟩
    refine d_e [1,4,5,6,7,8] [] En114 fun ac116 En117 => ?_
    refine then_normal ?_
    refine wp_ret ?_
    refine d_ret1 (t := 4) (v := .bool true) En117 (by kernel_rfl) (by kernel_rfl) ?_
    exact ⟨rfl, Hv115.pick [] (by kernel_rfl) (by decide)⟩

end Go.Proofs.Ytfeibokonhdgnaa
