/- Layer 17: writers. -/
import Derived.Test.YtofecellbfhnjaaW5
import Derived.Test.YtofecellbfhnjaaStr
namespace Go.Proofs.Ytofecellbfhnjaa
open Go.Dbr
set_option maxRecDepth 100000
set_option maxHeartbeats 2000000
set_option linter.unusedVariables false
set_option linter.unusedSimpArgs false

/-- so many bytes of a number, the highest first -/
def beN (n v : Nat) : Bs := (List.range n).map fun j => UInt8.ofNat (v / 256 ^ (n - 1 - j))
theorem beN_len (n v : Nat) : (beN n v).length = n := by simp [beN]
theorem beN_take {n v j : Nat} (h : j < n) : List.take (j + 1) (beN n v) = List.take j (beN n v) ++ [UInt8.ofNat (v / 256 ^ (n - 1 - j))] := by
  rw [List.take_add_one]
  congr 1
  simp [beN, h]
theorem p256 (i : Nat) : (2 : Nat) ^ (8 * i) = 256 ^ i := by rw [Nat.pow_mul]
theorem u64_byte {v : UInt64} {i : Nat} (h : i < 8) : UInt64.toUInt8 (v >>> UInt64.ofNat (8 * i)) = UInt8.ofNat (v.toNat / 256 ^ i) := by
  apply UInt8.toNat_inj.1
  rw [UInt64.toNat_toUInt8, UInt64.toNat_shiftRight, UInt8.toNat_ofNat']
  have h1 : (UInt64.ofNat (8 * i)).toNat = 8 * i := by rw [UInt64.toNat_ofNat']; omega
  rw [h1, Nat.mod_eq_of_lt (show 8 * i < 64 by omega), Nat.shiftRight_eq_div_pow, p256]
theorem wn_step {n v j : Nat} {m l : Bs} {b : UInt8} (hm : m = l ++ List.take j (beN n v)) (h : j < n) (hb : b = UInt8.ofNat (v / 256 ^ (n - 1 - j))) : m ++ [b] = l ++ List.take (j + 1) (beN n v) := by
  rw [beN_take h, hm, hb, List.append_assoc]
theorem wn_all {n v j : Nat} {m l : Bs} (hm : m = l ++ List.take j (beN n v)) (h : j = n) : m = l ++ beN n v := by
  rw [hm, List.take_of_length_le (by rw [beN_len, h]; exact Nat.le_refl _)]
def wbad (n x y k : Nat) (bad : Bool) : Bool := bad || (decide (k < x) || (decide (y < k) || decide (0 < k / 2 ^ (8 * n))))
theorem wb1 {n x y k : Nat} {bad : Bool} (h : bad = true) : true = wbad n x y k bad := by subst h; rfl
theorem wb2 {n x y k : Nat} {bad : Bool} (h : k < x) : true = wbad n x y k bad := by rw [wbad, decide_eq_true h, Bool.true_or, Bool.or_true]
theorem wb3 {n x y k : Nat} {bad : Bool} (h : y < k) : true = wbad n x y k bad := by rw [wbad, decide_eq_true h, Bool.true_or, Bool.or_true, Bool.or_true]
theorem wb4 {n x y k : Nat} {bad : Bool} (h : ¬ bad = true) (h1 : ¬ k < x) (h2 : ¬ y < k) : decide (((k / 2 ^ (8 * n) : Nat) : Int) > 0) = wbad n x y k bad := by
  rw [wbad, Bool.eq_false_iff.2 h, decide_eq_false h1, decide_eq_false h2, Bool.false_or, Bool.false_or, Bool.false_or]
  exact decide_eq_decide.2 (by omega)
/-- what a writer gives -/
def doneL (bad : Bool) (l : Bs) : Bs := bif bad then [] else l

theorem wnum_go (w : World) (bw : Nat) (a : Option Addr) (c : Nat) (l : Bs) (bad : Bool) (n : Nat) (hn : n ≤ 4) (v : UInt64) (hb : List.length l + n ≤ 200000000000000) (hH : Heap w [.box bw [.slice a (List.length l) c, .bool bad] 115, .vec a c 1 (bys l) 5]) : Calls Try.prog 126 #[pt bw, ni n, uv64 v] w fun e w' => ∃ a' c', e = .returned (.tuple #[]) ∧ Ev w [.box bw [.slice a (List.length l) c, .bool bad] 115, .vec a c 1 (bys l) 5] w' [.box bw [.slice a' (List.length (l ++ beN n v.toNat)) c', .bool bad] 115, .vec a' c' 1 (bys (l ++ beN n v.toNat)) 5] := by
 refine d_0 [(0, pt bw), (1, ni n), (2, uv64 v)] 27 Go.Proofs.Try.func126 Go.Proofs.Try.ntmps126 (hH) fun act0 En0 Hv0 => ?_
 refine d_s [0,2,6] [(1, g_n (w_r (e := ((n : Nat) : Int) - (1 : Int)) (x := ((n : Nat) : Int) - 1 - ((0 : Nat) : Int)) (by omega)))] En0 fun ac1 En2 => ?_
 refine wp_block ?_
 refine loop_m (fun ms3 ac wo => ∃ (j : Nat) (wa : Option Addr) (wc : Nat) (m : Bs), ms3 = (n - j : Nat) ∧ Env ac 27 [(0, pt bw), (2, uv64 v), (6, .int .i64 (((n : Nat) : Int) - 1 - ((j : Nat) : Int)))] ∧ Ev w [.box bw [.slice a (List.length l) c, .bool bad] 115, .vec a c 1 (bys l) 5] wo [.box bw [.slice wa (List.length m) wc, .bool bad] 115, .vec wa wc 1 (bys m) 5] ∧ (j ≤ n) ∧ (m = l ++ List.take j (beN n v.toNat)) ∧ (List.length m = List.length l + j)) ⟨_, 0, a, c, l, rfl, En2.sb, Hv0.pk [0, 1], (by omega), (by rw [List.take_zero, List.append_nil]), rfl⟩ ?_
 rintro mm9 ac5 wo6 ⟨j, wa, wc, m, rfl, En7, Hv8, hj, hm, hml⟩
 refine wp_seq ?_
 refine d_s [0,2,6,10] [] En7 fun ac10 En11 => ?_
 refine c_d (((n : Nat) : Int) - 1 - ((j : Nat) : Int) ≥ (0 : Int)) En11 (fun hc12 => ?_) (fun hc12 => ?_)
 ·
  refine wp_skip ?_
  refine then_normal ?_
  refine wp_seq ?_
  refine wp_block ?_
  have hjn : j < n := by omega
  refine r_c (fun ac wo => ∃ (ao77 : Option Addr) (cp78 : Nat), Env ac 27 [(0, pt bw), (2, uv64 v), (6, .int .i64 (((n : Nat) : Int) - 1 - ((j : Nat) : Int)))] ∧ Ev w [.box bw [.slice a (List.length l) c, .bool bad] 115, .vec a c 1 (bys l) 5] wo [.box bw [.slice ao77 (List.length (m ++ [UInt64.toUInt8 (v >>> UInt64.ofNat (8 * (n - 1 - j)))])) cp78, .bool bad] 115, .vec ao77 cp78 1 (bys (m ++ [UInt64.toUInt8 (v >>> UInt64.ofNat (8 * (n - 1 - j)))])) 5]) ?_ ?_
  ·
   refine h_s (fun wv => Ev w [.box bw [.slice a (List.length l) c, .bool bad] 115, .vec a c 1 (bys l) 5] wv [.box bw [.slice wa (List.length m) wc, .bool bad] 115]) [14] 15 ?_
   have wo13 := Hv8.trans (Ev.drew Hv8.heap)
   refine q_s [0,1,2,3] [] 11 En11 (wo13.pk [0]) fun ac91 En92 => ?_
   refine q_l 0 4 En92 (wo13.pk [0]) fun ac93 En94 => ?_
   refine q_s [5,6,7] [(6, g_i .i64 (show ((n : Nat) : Int) - 1 - ((j : Nat) : Int) = ((n - 1 - j : Nat) : Int) from by omega)), (7, g_n (w_m 8 (n - 1 - j)))] 7 En94 (wo13.pk [0]) fun ac95 En96 => ?_
   refine q_f 8 En96 (fun _ => Go.Dbr.run_shr_u64 v .i64 (8 * (n - 1 - j)) (by omega) _) (fun _ => wo13.pk [0]) fun ac97 En98 => ?_
   refine q_s [9] [(9, g_i .u8 (Go.Dbr.u64_to_u8 (x := v >>> UInt64.ofNat (8 * (n - 1 - j))) rfl))] 5 En98 (wo13.pk [0]) fun ac99 En100 => ?_
   refine q_t 10 ?_
   refine op_lit (d := some 23) (t := 23) (T := 5) (m := 1) (parts := #[(0, .int .u8 ((UInt8.toNat (UInt64.toUInt8 (v >>> UInt64.ofNat (8 * (n - 1 - j)))) : Nat) : Int))]) (xs := bys [UInt64.toUInt8 (v >>> UInt64.ofNat (8 * (n - 1 - j)))]) (sz := 1) En100 (by kernel_rfl) (by kernel_rfl) rfl (by decide) wo13 ?_
   intro ac102 wo103 bk101 En104 Hv105
   refine ⟨fun _ => Hv105.pk [0], ?_⟩
   refine q_t 11 ?_
   refine op_append (d := some 24) (t := 23) (tx := 23) (ty := 23) (k := 1) (p := List.length m) (m := 1) (x := .slice (some ⟨bk101, 0, none⟩) 1 1) (bytes := 1) En104 (by kernel_rfl) Hv105 rfl (bys_len _) (Reads.src (size := 1) (tx := 23) (e' := 5) (by kernel_rfl) (Hv105.heap.reads (k := 2) rfl) rfl (fun e => by cases e) (bys_one _)) (by kernel_rfl) (z := .int .u8 0) (by kernel_rfl) rfl (by decide) (by omega) (by unfold maxLen; omega) ?_
   intro ac110 wo111 ao106 cp107 En112 Hv113 hnz _
   clear hnz
   rw [← bys_append] at Hv113
   have ehz108 : (List.length m) + 1 = List.length (m ++ [UInt64.toUInt8 (v >>> UInt64.ofNat (8 * (n - 1 - j)))]) := (by first | (simp; done) | (simp; omega) | omega)
   rw [ehz108] at En112
   refine ⟨fun _ => Hv113.pk [0], ?_⟩
   refine q_s [12,13] [] 1 En112 (Hv113.pk [0]) fun ac114 En115 => ?_
   refine q_t 14 ?_
   refine m_s 0 [.box bw [.slice ao106 (List.length (m ++ [UInt64.toUInt8 (v >>> UInt64.ofNat (8 * (n - 1 - j)))])) cp107, .bool bad] 115, .vec ao106 cp107 1 (bys (m ++ [UInt64.toUInt8 (v >>> UInt64.ofNat (8 * (n - 1 - j)))])) 5, .vec (some ⟨bk101, 0, none⟩) 1 1 (bys [UInt64.toUInt8 (v >>> UInt64.ofNat (8 * (n - 1 - j)))]) 5] En115 Hv113 fun ac116 wo117 En118 Hv119 => ?_
   refine ⟨q_y, ?_⟩
   exact h_e ⟨ao106, cp107, En118.sb, Hv119.pk [0, 1]⟩
  rintro ac120 wo121 ⟨ao77, cp78, En122, Hv123⟩
  refine block_normal ?_
  refine then_normal ?_
  refine d_r [0,2,6] [(1, g_n (w_r (e := (((n : Nat) : Int) - 1 - ((j : Nat) : Int)) - (1 : Int)) (x := ((n : Nat) : Int) - 1 - ((j + 1 : Nat) : Int)) (by omega)))] En122 fun ac124 En125 => ?_
  refine then_normal ?_
  refine ⟨_, ⟨j + 1, ao77, cp78, (m ++ [UInt64.toUInt8 (v >>> UInt64.ofNat (8 * (n - 1 - j)))]), rfl, En125.sb, Hv123.pk [0, 1], (by omega), (wn_step hm (by omega) (u64_byte (by omega))), (by rw [List.length_append, hml]; rfl)⟩, ?_⟩
  omega
 ·
  refine wp_exit ?_
  refine then_exit ?_
  refine then_exit ?_
  refine block_exit ?_
  refine d_end0 En11 (by kernel_rfl) ?_
  have hme := wn_all hm (by omega)
  subst hme
  exact ⟨wa, wc, rfl, Hv8.pk [0, 1]⟩

end Go.Proofs.Ytofecellbfhnjaa
