import Derived.Test.YtfcfgbejpcmmkaaDoorBk8
import Derived.Test.YtfcfgbejpcmmkaaDoorBk3
/- Layer 3: lines are read. -/


namespace Go.Proofs.YtfcfgbejpcmmkaaDoor
open Go.Dbr
set_option maxRecDepth 100000
set_option maxHeartbeats 2000000
set_option linter.unusedVariables false
set_option linter.unusedSimpArgs false

def rdPs : Nat → List RPair → Bs → Nat → Option (List RPair)
  | 0, _, _, _ => none
  | f + 1, ah, s, k => if k < s.length then (if tkB false [32] (List.drop k s) then none else (rdPr ah s (k + 1)).bind fun z => rdPs f (ah ++ [z.1]) s z.2) else some ah
def p2 (s : Bs) : Nat := 0 + 2 + nDg (List.drop (0 + 2) s)
/-- a line, read -/
def rdL (s : Bs) : Option (UInt64 × Bs × List RPair) :=
  if 1024 < s.length then none
  else if tkB false [116, 61] (List.drop 0 s) then none
  else if nmB false (List.drop (0 + 2) s) then none
  else if tkB false [32, 101, 118, 61] (List.drop (p2 s) s) then none
  else if wdB false (List.drop (p2 s + 4) s) then none
  else (rdPs (s.length + 1) [] s (p2 s + 4 + runN (List.drop (p2 s + 4) s))).map fun ps => (numV false (List.drop (0 + 2) s), wdV false (List.drop (p2 s + 4) s), ps)
theorem l_0 {s : Bs} (h : 1024 < s.length) : rdL s = none := if_pos h
theorem l_1 {s : Bs} (h0 : s.length ≤ 1024) (h : tkB false [116, 61] (List.drop 0 s) = true) : rdL s = none := by rw [rdL, if_neg (by omega), if_pos h]
theorem l_2 {s : Bs} (h0 : s.length ≤ 1024) (h1 : tkB false [116, 61] (List.drop 0 s) = false) (h : nmB false (List.drop (0 + 2) s) = true) : rdL s = none := by rw [rdL, if_neg (by omega), if_neg (by rw [h1]; decide), if_pos h]
theorem l_3 {s : Bs} (h0 : s.length ≤ 1024) (h1 : tkB false [116, 61] (List.drop 0 s) = false) (h2 : nmB false (List.drop (0 + 2) s) = false) (h : tkB false [32, 101, 118, 61] (List.drop (p2 s) s) = true) : rdL s = none := by rw [rdL, if_neg (by omega), if_neg (by rw [h1]; decide), if_neg (by rw [h2]; decide), if_pos h]
theorem l_4 {s : Bs} (h0 : s.length ≤ 1024) (h1 : tkB false [116, 61] (List.drop 0 s) = false) (h2 : nmB false (List.drop (0 + 2) s) = false) (h3 : tkB false [32, 101, 118, 61] (List.drop (p2 s) s) = false) (h : wdB false (List.drop (p2 s + 4) s) = true) : rdL s = none := by rw [rdL, if_neg (by omega), if_neg (by rw [h1]; decide), if_neg (by rw [h2]; decide), if_neg (by rw [h3]; decide), if_pos h]
theorem l_5 {s : Bs} (h0 : s.length ≤ 1024) (h1 : tkB false [116, 61] (List.drop 0 s) = false) (h2 : nmB false (List.drop (0 + 2) s) = false) (h3 : tkB false [32, 101, 118, 61] (List.drop (p2 s) s) = false) (h : wdB false (List.drop (p2 s + 4) s) = false) : rdL s = (rdPs (s.length + 1) [] s (p2 s + 4 + runN (List.drop (p2 s + 4) s))).map fun ps => (numV false (List.drop (0 + 2) s), wdV false (List.drop (p2 s + 4) s), ps) := by rw [rdL, if_neg (by omega), if_neg (by rw [h1]; decide), if_neg (by rw [h2]; decide), if_neg (by rw [h3]; decide), if_neg (by rw [h]; decide)]
abbrev RL := Option (UInt64 × Bs × List RPair)
theorem ps_end {R : RL} {F : List RPair → UInt64 × Bs × List RPair} {f : Nat} {ah : List RPair} {s : Bs} {q : Nat} (h : R = (rdPs (f + 1) ah s q).map F) (hq : ¬ q < s.length) : R = some (F ah) := by rw [h, rdPs, if_neg hq]; rfl
theorem ps_s {R : RL} {F : List RPair → UInt64 × Bs × List RPair} {f : Nat} {ah : List RPair} {s : Bs} {q : Nat} (h : R = (rdPs (f + 1) ah s q).map F) (hq : q < s.length) (ht : tkB false [32] (List.drop q s) = true) : R = none := by rw [h, rdPs, if_pos hq, if_pos ht]; rfl
theorem prB_of {ah : List RPair} {s : Bs} {k : Nat} (h : prB false ah s k = false) : ∃ z, rdPr ah s k = some z := by
  rw [prB] at h
  cases hz : rdPr ah s k with
  | none => rw [hz] at h; cases h
  | some z => exact ⟨z, rfl⟩
theorem ps_n {R : RL} {F : List RPair → UInt64 × Bs × List RPair} {f : Nat} {ah : List RPair} {s : Bs} {q : Nat} (h : R = (rdPs (f + 1) ah s q).map F) (hq : q < s.length) (ht : tkB false [32] (List.drop q s) = false) (hb : prB false ah s (q + 1) = true) : R = none := by
  have hz : rdPr ah s (q + 1) = none := by
    rw [prB] at hb
    cases hz : rdPr ah s (q + 1) with
    | none => rfl
    | some z => rw [hz] at hb; cases hb
  rw [h, rdPs, if_pos hq, if_neg (by rw [ht]; decide), hz]; rfl
theorem ps_y {R : RL} {F : List RPair → UInt64 × Bs × List RPair} {f : Nat} {ah : List RPair} {s : Bs} {q p : Nat} {x : RPair} (h : R = (rdPs (f + 1) ah s q).map F) (hq : q < s.length) (ht : tkB false [32] (List.drop q s) = false) (hb : prB false ah s (q + 1) = false) (hx : ∀ z, false = false → rdPr ah s (q + 1) = some z → x = z.1 ∧ p = z.2) : R = (rdPs f (ah ++ [x]) s p).map F := by
  obtain ⟨z, hz⟩ := prB_of hb
  obtain ⟨rfl, rfl⟩ := hx z rfl hz
  rw [h, rdPs, if_pos hq, if_neg (by rw [ht]; decide), hz]; rfl
theorem pr_gt {ah : List RPair} {s : Bs} {k : Nat} {z : RPair × Nat} (h : rdPr ah s k = some z) : k < z.2 ∧ ah.length < 16 := by
  unfold rdPr at h
  split at h
  · cases h
  · split at h
    · cases h
    · rename_i g
      have g2 := Classical.not_not.1 g
      split at h
      · cases h
      · split at h
        · obtain ⟨x, hx, h⟩ := Option.map_eq_some_iff.1 h
          rw [← h]
          exact ⟨by show k < k + _ + 1 + _; omega, g2.1⟩
        · split at h
          · cases h
          · cases h
            exact ⟨by show k < k + _ + 1 + _; omega, g2.1⟩
theorem mu_lt (b : Bool) (f : Nat) : (bif b then 0 else f) < (bif false then 0 else f + 1) := by cases b <;> simp
theorem mem_snoc {ah : List RPair} {x : RPair} {P : RPair → Prop} (h : ∀ y ∈ ah, P y) (hx : P x) : ∀ y ∈ ah ++ [x], P y := fun y hy => (List.mem_append.1 hy).elim (h y) fun g => by rw [List.mem_singleton.1 g]; exact hx
def okA (ah : List RPair) : Prop := ∀ y ∈ ah, y.1.length ≤ 1024 ∧ y.2.2.2.1.length ≤ 1024
theorem okA_in {ah : List RPair} (h : okA ah) : ∀ y ∈ ah, y.1.length ≤ 140737488351232 ∧ True ∧ True ∧ y.2.2.2.1.length ≤ 140737488351232 ∧ True := fun y hy => by
  have := h y hy
  exact ⟨by omega, trivial, trivial, by omega, trivial⟩

theorem parse_go (w : World) (s : Bs) (hs0 : List.length s ≤ 140737488351232) (ge : InE w []) : Calls Tryd.prog 9 #[.string (bstr s)] w fun e w' => (rdL s = none ∧ ∃ p : Nat, ∃ er : Int, er ≠ 0 ∧ p ≤ List.length s ∧ e = .returned (.tuple #[.agg #[.int .u64 0, .string (bstr []), .slice none 0 0], ni p, .int .i64 er]) ∧ Ev w [] w' []) ∨ (∃ (t : UInt64) (ev : Bs) (ps : List RPair) (a' : Option Addr) (c' : Nat), rdL s = some (t, ev, ps) ∧ e = .returned (.tuple #[.agg #[uv64 t, .string (bstr ev), .slice a' (List.length ps) c'], .int .i64 0, .int .i64 0]) ∧ Ev w [] w' [.vec a' c' 4 (List.flatMap fPair ps) 35] ∧ okA ps ∧ ps.length ≤ 16 ∧ ev.length ≤ 32) := by
 refine d_0 [(0, .string (bstr s))] 59 Go.Proofs.Tryd.func9 Go.Proofs.Tryd.ntmps9 (Heap.nil _) fun act0 En0 Hv0 => ?_
 refine wp_seq ?_
 refine region_from ?_
 refine f_o ?_
 refine m_z 25 [.int .u64 0, .string (bstr []), .slice none 0 0] En0 Hv0 fun ac2 wo3 bk1 En4 Hv5 => ?_
 refine d_e [0,2,3,4] [] En4 fun ac6 En7 => ?_
 refine then_normal ?_
 refine wp_seq ?_
 refine wp_seq ?_
 have hz := bstr_size s
 refine d_r [0,2,3,4,9] [] En7 fun ac8 En9 => ?_
 refine then_normal ?_
 refine c_d (((ByteArray.size (bstr s) : Nat) : Int) > (1024 : Int)) En9 (fun hc10 => ?_) (fun hc10 => ?_)
 ·
  refine wp_seq ?_
  refine region_from ?_
  refine d_k [0,2,3,4,10] [] 1 En9 fun ac11 En12 => ?_
  refine f_o ?_
  refine m_g 0 0 3 [.int .u64 0, .string (bstr []), .slice none 0 0] [.int .u64 0, .string (bstr []), .slice none 0 0] [.box bk1 [.int .u64 0, .string (bstr []), .slice none 0 0] 25] En12 Hv5 rfl rfl (by simp) (one_all (by kernel_rfl)) rfl rfl fun ac13 wo14 En15 Hv16 => ?_
  refine d_e [0,2,3,4] [] En15 fun ac17 En18 => ?_
  refine then_normal ?_
  refine wp_ret ?_
  refine then_ret ?_
  refine d_cell_tt (v := .agg #[.int .u64 0, .string (bstr []), .slice none 0 0]) (x := .int .i64 0) (y := .int .i64 32) (t := 2) (T := 25) (ad := ⟨bk1, 0, none⟩) (u := 3) (s := 4) En18 (by kernel_rfl) (by kernel_rfl) (Ev.cellAgg (t := 25) (k := 0) (off := 0) (m := 3) (xs := [.int .u64 0, .string (bstr []), .slice none 0 0]) Hv16 rfl rfl rfl (by kernel_rfl) (by kernel_rfl)) (by kernel_rfl) (by kernel_rfl) ?_
  have hno : rdL s = none := by first | exact hbd rfl | exact l_0 (by omega)
  exact .inl ⟨hno, 0, 32, by decide, (by omega), rfl, Hv16.pick [] (by kernel_rfl) (by decide)⟩
 ·
  refine wp_skip ?_
  refine then_normal ?_
  refine wp_seq ?_
  have hs : List.length s ≤ 1024 := by omega
  refine region_from ?_
  refine d_k [0,2,3,4,12] [] 2 En9 fun ac19 En20 => ?_
  refine f_o ?_
  refine m_m 73 [.string (bstr s), .int .i64 0, .bool false] En20 Hv5 fun ac22 wo23 bk21 En24 Hv25 => ?_
  refine d_e [0,2,3,4,5] [] En24 fun ac26 En27 => ?_
  refine then_normal ?_
  refine wp_seq ?_
  refine region_from ?_
  refine d_k [0,2,3,4,5,14] [] 1 En27 fun ac28 En29 => ?_
  refine f_o ?_
  refine c_l [1] (M := [.box bk21 [.string (bstr s), .int .i64 0, .bool false] 73]) En29 Hv25 (fun hM33 => take_go _ bk21 s [116, 61] 0 false hs (by omega) hM33) ?_
  rintro _ wo34 ⟨p30, rfl, he35, hp31, hq32⟩
  refine ⟨_, _, [.box bk21 [.string (bstr s), ni p30, .bool (tkB false [116, 61] (List.drop 0 s))] 73, .box bk1 [.int .u64 0, .string (bstr []), .slice none 0 0] 25], rfl, he35, by kernel_rfl, fun ac37 En38 Hv39 => ?_⟩
  refine f_e ?_
  refine then_normal ?_
  refine wp_seq ?_
  cases hb1 : tkB false [116, 61] (List.drop 0 s) with
  | false =>
   have hpe_ : p30 = 0 + 2 := hq32 hb1
   subst hpe_
   have Hv40 : Ev w [] wo34 [.box bk21 [.string (bstr s), .int .i64 ((0 + 2 : Nat) : Int), .bool false] 73, .box bk1 [.int .u64 0, .string (bstr []), .slice none 0 0] 25] := by have h := Hv39; rw [hb1] at h; exact h
   refine region_from ?_
   refine d_k [0,2,3,4,5,16] [] 1 En38 fun ac41 En42 => ?_
   refine f_o ?_
   refine c_l [0] (M := [.box bk21 [.string (bstr s), .int .i64 ((0 + 2 : Nat) : Int), .bool false] 73]) En42 Hv40 (fun hM46 => number_go _ bk21 s (0 + 2) false hs (by omega) ((ge.ev Hv40).pick [0] (by kernel_rfl)) hM46) ?_
   rintro _ wo47 ⟨p43, rfl, he48, hp44, hq45⟩
   refine ⟨_, _, [.box bk21 [.string (bstr s), ni p43, .bool (nmB false (List.drop (0 + 2) s))] 73, .box bk1 [.int .u64 0, .string (bstr []), .slice none 0 0] 25], rfl, he48, by kernel_rfl, fun ac50 En51 Hv52 => ?_⟩
   refine d_k [0,2,3,4,5,18] [] 3 En51 fun ac53 En54 => ?_
   refine f_o ?_
   refine m_z 25 [.int .u64 0, .string (bstr []), .slice none 0 0] En54 Hv52 fun ac56 wo57 bk55 En58 Hv59 => ?_
   refine f_o ?_
   refine m_g 2 0 3 [.int .u64 ((UInt64.toNat (numV false (List.drop (0 + 2) s)) : Nat) : Int), .string (bstr []), .slice none 0 0] [.int .u64 ((UInt64.toNat (numV false (List.drop (0 + 2) s)) : Nat) : Int), .string (bstr []), .slice none 0 0] [.box bk21 [.string (bstr s), ni p43, .bool (nmB false (List.drop (0 + 2) s))] 73, .box bk1 [.int .u64 0, .string (bstr []), .slice none 0 0] 25, .box bk55 [.int .u64 ((UInt64.toNat (numV false (List.drop (0 + 2) s)) : Nat) : Int), .string (bstr []), .slice none 0 0] 25] En58 Hv59 rfl rfl (by simp) (one_all (by kernel_rfl)) rfl rfl fun ac60 wo61 En62 Hv63 => ?_
   refine f_e ?_
   refine then_normal ?_
   refine wp_seq ?_
   cases hb2 : nmB false (List.drop (0 + 2) s) with
   | false =>
    have hpe_ : p43 = 0 + 2 + nDg (List.drop (0 + 2) s) := hq45 hb2
    subst hpe_
    have Hv64 : Ev w [] wo61 [.box bk21 [.string (bstr s), .int .i64 ((0 + 2 + nDg (List.drop (0 + 2) s) : Nat) : Int), .bool false] 73, .box bk1 [.int .u64 0, .string (bstr []), .slice none 0 0] 25, .box bk55 [.int .u64 ((UInt64.toNat (numV false (List.drop (0 + 2) s)) : Nat) : Int), .string (bstr []), .slice none 0 0] 25] := by have h := Hv63; rw [hb2] at h; exact h
    refine region_from ?_
    refine d_k [0,2,3,4,5,6,19] [] 1 En62 fun ac65 En66 => ?_
    refine f_o ?_
    refine c_l [0] (M := [.box bk21 [.string (bstr s), .int .i64 ((0 + 2 + nDg (List.drop (0 + 2) s) : Nat) : Int), .bool false] 73]) En66 Hv64 (fun hM70 => take_go _ bk21 s [32, 101, 118, 61] (0 + 2 + nDg (List.drop (0 + 2) s)) false hs (by omega) hM70) ?_
    rintro _ wo71 ⟨p67, rfl, he72, hp68, hq69⟩
    refine ⟨_, _, [.box bk21 [.string (bstr s), ni p67, .bool (tkB false [32, 101, 118, 61] (List.drop (0 + 2 + nDg (List.drop (0 + 2) s)) s))] 73, .box bk1 [.int .u64 0, .string (bstr []), .slice none 0 0] 25, .box bk55 [.int .u64 ((UInt64.toNat (numV false (List.drop (0 + 2) s)) : Nat) : Int), .string (bstr []), .slice none 0 0] 25], rfl, he72, by kernel_rfl, fun ac74 En75 Hv76 => ?_⟩
    refine f_e ?_
    refine then_normal ?_
    refine wp_seq ?_
    cases hb3 : tkB false [32, 101, 118, 61] (List.drop (0 + 2 + nDg (List.drop (0 + 2) s)) s) with
    | false =>
     have hpe_ : p67 = 0 + 2 + nDg (List.drop (0 + 2) s) + 4 := hq69 hb3
     subst hpe_
     have Hv77 : Ev w [] wo71 [.box bk21 [.string (bstr s), .int .i64 ((0 + 2 + nDg (List.drop (0 + 2) s) + 4 : Nat) : Int), .bool false] 73, .box bk1 [.int .u64 0, .string (bstr []), .slice none 0 0] 25, .box bk55 [.int .u64 ((UInt64.toNat (numV false (List.drop (0 + 2) s)) : Nat) : Int), .string (bstr []), .slice none 0 0] 25] := by have h := Hv76; rw [hb3] at h; exact h
     refine region_from ?_
     refine d_k [0,2,3,4,5,6,21] [] 1 En75 fun ac78 En79 => ?_
     refine f_o ?_
     refine c_l [0] (M := [.box bk21 [.string (bstr s), .int .i64 ((0 + 2 + nDg (List.drop (0 + 2) s) + 4 : Nat) : Int), .bool false] 73]) En79 Hv77 (fun hM83 => word_go2 _ bk21 s (0 + 2 + nDg (List.drop (0 + 2) s) + 4) false hs (by omega) hM83) ?_
     rintro _ wo84 ⟨p80, rfl, he85, hp81, hq82⟩
     refine ⟨_, _, [.box bk21 [.string (bstr s), ni p80, .bool (wdB false (List.drop (0 + 2 + nDg (List.drop (0 + 2) s) + 4) s))] 73, .box bk1 [.int .u64 0, .string (bstr []), .slice none 0 0] 25, .box bk55 [.int .u64 ((UInt64.toNat (numV false (List.drop (0 + 2) s)) : Nat) : Int), .string (bstr []), .slice none 0 0] 25], rfl, he85, by kernel_rfl, fun ac87 En88 Hv89 => ?_⟩
     refine d_k [0,2,3,4,5,6,22,23] [] 3 En88 fun ac90 En91 => ?_
     refine f_o ?_
     refine m_s 2 [.box bk21 [.string (bstr s), ni p80, .bool (wdB false (List.drop (0 + 2 + nDg (List.drop (0 + 2) s) + 4) s))] 73, .box bk1 [.int .u64 0, .string (bstr []), .slice none 0 0] 25, .box bk55 [.int .u64 ((UInt64.toNat (numV false (List.drop (0 + 2) s)) : Nat) : Int), .string (bstr (wdV false (List.drop (0 + 2 + nDg (List.drop (0 + 2) s) + 4) s))), .slice none 0 0] 25] En91 Hv89 fun ac92 wo93 En94 Hv95 => ?_
     refine f_e ?_
     refine then_normal ?_
     refine wp_seq ?_
     refine wp_block ?_
     have Hv96 : Ev w [] wo93 [.box bk21 [.string (bstr s), ni p80, .bool (wdB false (List.drop (0 + 2 + nDg (List.drop (0 + 2) s) + 4) s))] 73, .box bk1 [.int .u64 0, .string (bstr []), .slice none 0 0] 25, .box bk55 [.int .u64 ((UInt64.toNat (numV false (List.drop (0 + 2) s)) : Nat) : Int), .string (bstr (wdV false (List.drop (0 + 2 + nDg (List.drop (0 + 2) s) + 4) s))), .slice none 0 0] 25, .vec none 0 4 (List.flatMap fPair []) 35] := Ev.nil (sz := 4) (T := 35) Hv95
     refine loop_m (fun ms97 ac wo => ∃ (f : Nat) (b : Bool) (q : Nat) (a2 : Option Addr) (c2 : Nat) (ah : List RPair), ms97 = (bif b then 0 else f : Nat) ∧ Env ac 59 [(0, .string (bstr s)), (2, pt bk1), (3, .int .i64 0), (4, .int .i64 0), (5, pt bk21), (6, pt bk55)] ∧ Ev w [] wo [.box bk21 [.string (bstr s), ni q, .bool b] 73, .box bk55 [.int .u64 ((UInt64.toNat (numV false (List.drop (0 + 2) s)) : Nat) : Int), .string (bstr (wdV false (List.drop (0 + 2 + nDg (List.drop (0 + 2) s) + 4) s))), .slice a2 (List.length ah) c2] 25, .vec a2 c2 4 (List.flatMap fPair ah) 35, .box bk1 [.int .u64 0, .string (bstr []), .slice none 0 0] 25] ∧ (q ≤ List.length s) ∧ (b = false → List.length s < q + f) ∧ (b = false → rdL s = Option.map (fun ps => (numV false (List.drop (0 + 2) s), wdV false (List.drop (0 + 2 + nDg (List.drop (0 + 2) s) + 4) s), ps)) (rdPs f ah s q)) ∧ (b = true → rdL s = none) ∧ (b = false → List.length ah ≤ 16) ∧ (List.length ah ≤ 17) ∧ (okA ah)) ⟨_, List.length s + 1, (wdB false (List.drop (0 + 2 + nDg (List.drop (0 + 2) s) + 4) s)), p80, none, 0, [], rfl, En94.sub (by kernel_rfl), Hv96.pick [0, 2, 3, 1] (by kernel_rfl) (by decide), (by omega), (fun _ => by omega), (fun h => by rw [hq82 h]; exact l_5 hs hb1 hb2 hb3 h), (fun h => l_4 hs hb1 hb2 hb3 h), (fun _ => by simp), (by simp), (fun _ h => by cases h)⟩ ?_
     rintro mm103 ac99 wo100 ⟨f, b, q, a2, c2, ah, rfl, En101, Hv102, hq, hf, hgo, hbd, hl16, hl17, hok⟩
     refine wp_seq ?_
     refine wp_seq ?_
     cases b with
     | false =>
      have hgo1 := hgo rfl
      have hf1 := hf rfl
      have hl1 := hl16 rfl
      obtain ⟨f2, rfl⟩ : ∃ f2, f = f2 + 1 := ⟨f - 1, by omega⟩
      have hgo2 := hgo rfl
      refine region_from ?_
      refine d_k [0,2,3,4,5,6,26] [] 3 En101 fun ac104 En105 => ?_
      refine f_o ?_
      refine m_l 0 En105 Hv102 fun ac106 En107 => ?_
      refine d_k [0,2,3,4,5,6,29,32] [] 9 En107 fun ac108 En109 => ?_
      refine f_o ?_
      refine m_l 0 En109 Hv102 fun ac110 En111 => ?_
      refine d_e [0,2,3,4,5,6,37] [] En111 fun ac112 En113 => ?_
      refine then_normal ?_
      refine c_d (((q : Nat) : Int) < ((ByteArray.size (bstr s) : Nat) : Int)) En113 (fun hc114 => ?_) (fun hc114 => ?_)
      ·
       refine wp_skip ?_
       refine then_normal ?_
       refine wp_block ?_
       refine wp_seq ?_
       refine region_from ?_
       refine d_k [0,2,3,4,5,6,38] [] 1 En113 fun ac115 En116 => ?_
       refine f_o ?_
       refine c_l [0] (M := [.box bk21 [.string (bstr s), ni q, .bool false] 73]) En116 Hv102 (fun hM120 => take_go _ bk21 s [32] q false hs (by omega) hM120) ?_
       rintro _ wo121 ⟨p117, rfl, he122, hp118, hq119⟩
       refine ⟨_, _, [.box bk21 [.string (bstr s), ni p117, .bool (tkB false [32] (List.drop q s))] 73, .box bk55 [.int .u64 ((UInt64.toNat (numV false (List.drop (0 + 2) s)) : Nat) : Int), .string (bstr (wdV false (List.drop (0 + 2 + nDg (List.drop (0 + 2) s) + 4) s))), .slice a2 (List.length ah) c2] 25, .vec a2 c2 4 (List.flatMap fPair ah) 35, .box bk1 [.int .u64 0, .string (bstr []), .slice none 0 0] 25], rfl, he122, by kernel_rfl, fun ac124 En125 Hv126 => ?_⟩
       refine f_e ?_
       refine then_normal ?_
       cases hbs : tkB false [32] (List.drop q s) with
       | false =>
        have hpe_ : p117 = q + 1 := hq119 hbs
        subst hpe_
        have Hv127 : Ev w [] wo121 [.box bk21 [.string (bstr s), .int .i64 ((q + 1 : Nat) : Int), .bool false] 73, .box bk55 [.int .u64 ((UInt64.toNat (numV false (List.drop (0 + 2) s)) : Nat) : Int), .string (bstr (wdV false (List.drop (0 + 2 + nDg (List.drop (0 + 2) s) + 4) s))), .slice a2 (List.length ah) c2] 25, .vec a2 c2 4 (List.flatMap fPair ah) 35, .box bk1 [.int .u64 0, .string (bstr []), .slice none 0 0] 25] := by have h := Hv126; rw [hbs] at h; exact h
        refine r_c (fun ac wo => ∃ (p263 : _) (xp264 : _) (ao280 : Option Addr) (cp281 : Nat), Env ac 59 [(0, .string (bstr s)), (2, pt bk1), (3, .int .i64 0), (4, .int .i64 0), (5, pt bk21), (6, pt bk55)] ∧ Ev w [] wo [.box bk21 [.string (bstr s), ni p263, .bool (prB false ah s (q + 1))] 73, .box bk55 [.int .u64 ((UInt64.toNat (numV false (List.drop (0 + 2) s)) : Nat) : Int), .string (bstr (wdV false (List.drop (0 + 2 + nDg (List.drop (0 + 2) s) + 4) s))), .slice ao280 (List.length (ah ++ ([(xp264.1, xp264.2.1, xp264.2.2.1, xp264.2.2.2.1, ())] : List (RPair)))) cp281] 25, .vec ao280 cp281 4 (List.flatMap fPair (ah ++ ([(xp264.1, xp264.2.1, xp264.2.2.1, xp264.2.2.2.1, ())] : List (RPair)))) 35, .box bk1 [.int .u64 0, .string (bstr []), .slice none 0 0] 25] ∧ (p263 ≤ List.length s) ∧ (List.length xp264.1 ≤ 1024 ∧ List.length xp264.2.2.2.1 ≤ 1024) ∧ (∀ z, false = false → rdPr ah s (q + 1) = some z → xp264 = z.1 ∧ p263 = z.2)) ?_ ?_
        ·
         refine h_s (fun wv => Ev w [] wv [.box bk55 [.int .u64 ((UInt64.toNat (numV false (List.drop (0 + 2) s)) : Nat) : Int), .string (bstr (wdV false (List.drop (0 + 2 + nDg (List.drop (0 + 2) s) + 4) s))), .slice a2 (List.length ah) c2] 25]) [9] 10 ?_
         have wo128 := Hv127.trans (Ev.drew Hv127.heap)
         refine q_s [0] [] 9 En125 (wo128.pick [1] (by kernel_rfl) (by decide)) fun ac294 En295 => ?_
         refine q_l 0 1 En295 (wo128.pick [1] (by kernel_rfl) (by decide)) fun ac296 En297 => ?_
         refine q_s [2,3] [] 6 En297 (wo128.pick [1] (by kernel_rfl) (by decide)) fun ac298 En299 => ?_
         refine q_l 0 4 En299 (wo128.pick [1] (by kernel_rfl) (by decide)) fun ac300 En301 => ?_
         refine q_t 5 ?_
         refine c_l [0] (M := [.box bk21 [.string (bstr s), .int .i64 ((q + 1 : Nat) : Int), .bool false] 73]) En301 wo128 (fun hM307 => pair_go _ bk21 s (q + 1) false hs (by omega) a2 c2 ah (wo128.heap.innS (k := 2) (f := fPair) (sz := 4) (by_ := 48) rfl (fun _ => rfl) (by decide) [0] (by kernel_rfl) rfl (by omega) (okA_in hok)) ((ge.ev wo128).pick [0] (by kernel_rfl)) hM307) ?_
         rintro _ wo308 ⟨p302, xp303, rfl, he309, hp304, hl305, hq306⟩
         refine ⟨_, _, [.box bk21 [.string (bstr s), ni p302, .bool (prB false ah s (q + 1))] 73, .box bk55 [.int .u64 ((UInt64.toNat (numV false (List.drop (0 + 2) s)) : Nat) : Int), .string (bstr (wdV false (List.drop (0 + 2 + nDg (List.drop (0 + 2) s) + 4) s))), .slice a2 (List.length ah) c2] 25, .vec a2 c2 4 (List.flatMap fPair ah) 35, .box bk1 [.int .u64 0, .string (bstr []), .slice none 0 0] 25], rfl, he309, by kernel_rfl, fun ac311 En312 Hv313 => ?_⟩
         refine ⟨fun _ => Hv313.pick [1] (by kernel_rfl) (by decide), ?_⟩
         refine q_t 6 ?_
         refine op_lit (d := some 46) (t := 23) (T := 35) (m := 1) (parts := #[(0, .agg #[.string (bstr xp303.1), .bool xp303.2.1, .int .u64 ((UInt64.toNat xp303.2.2.1 : Nat) : Int), .string (bstr xp303.2.2.2.1)])]) (xs := List.flatMap fPair ([(xp303.1, xp303.2.1, xp303.2.2.1, xp303.2.2.2.1, ())] : List (RPair))) (sz := 4) En312 (by kernel_rfl) (by kernel_rfl) rfl (by decide) Hv313 ?_
         intro ac315 wo316 bk314 En317 Hv318
         refine ⟨fun _ => Hv318.pick [1] (by kernel_rfl) (by decide), ?_⟩
         refine q_t 7 ?_
         refine op_append (d := some 47) (t := 23) (tx := 23) (ty := 23) (k := 2) (p := List.length ah) (m := 1) (x := .slice (some ⟨bk314, 0, none⟩) 1 1) (bytes := 48) En317 (by kernel_rfl) Hv318 rfl (sv_len (f := fPair) (sz := 4) (fun _ => rfl) _) (Reads.src (size := 4) (tx := 23) (e' := 35) (by kernel_rfl) (Hv318.heap.reads (k := 4) rfl) rfl (fun e => by cases e) (flat_one (f := fPair) (fun _ => one_all rfl) _)) (by kernel_rfl) (z := .agg #[.string (bstr []), .bool false, .int .u64 0, .string (bstr [])]) (by kernel_rfl) rfl (by decide) (by omega) (by unfold maxLen; omega) ?_
         intro ac323 wo324 ao319 cp320 En325 Hv326 hnz _
         clear hnz
         rw [← List.flatMap_append] at Hv326
         have ehz321 : (List.length ah) + 1 = List.length (ah ++ ([(xp303.1, xp303.2.1, xp303.2.2.1, xp303.2.2.2.1, ())] : List (RPair))) := (by first | (simp; done) | (simp; omega) | omega)
         rw [ehz321] at En325
         refine ⟨fun _ => Hv326.pick [1] (by kernel_rfl) (by decide), ?_⟩
         refine q_s [8] [] 1 En325 (Hv326.pick [1] (by kernel_rfl) (by decide)) fun ac327 En328 => ?_
         refine q_t 9 ?_
         refine m_s 1 [.box bk21 [.string (bstr s), ni p302, .bool (prB false ah s (q + 1))] 73, .box bk55 [.int .u64 ((UInt64.toNat (numV false (List.drop (0 + 2) s)) : Nat) : Int), .string (bstr (wdV false (List.drop (0 + 2 + nDg (List.drop (0 + 2) s) + 4) s))), .slice ao319 (List.length (ah ++ ([(xp303.1, xp303.2.1, xp303.2.2.1, xp303.2.2.2.1, ())] : List (RPair)))) cp320] 25, .vec ao319 cp320 4 (List.flatMap fPair (ah ++ ([(xp303.1, xp303.2.1, xp303.2.2.1, xp303.2.2.2.1, ())] : List (RPair)))) 35, .box bk1 [.int .u64 0, .string (bstr []), .slice none 0 0] 25, .vec (some ⟨bk314, 0, none⟩) 1 4 (List.flatMap fPair ([(xp303.1, xp303.2.1, xp303.2.2.1, xp303.2.2.2.1, ())] : List (RPair))) 35] En328 Hv326 fun ac329 wo330 En331 Hv332 => ?_
         refine ⟨q_y, ?_⟩
         exact h_e ⟨p302, xp303, ao319, cp320, En331.sub (by kernel_rfl), Hv332.pick [0, 1, 2, 3] (by kernel_rfl) (by decide), hp304, hl305, hq306⟩
        rintro ac333 wo334 ⟨p263, xp264, ao280, cp281, En335, Hv336, hp265, hl266, hq267⟩
        refine block_normal ?_
        refine then_normal ?_
        refine ⟨_, ⟨f2, prB false ah s (q + 1), p263, ao280, cp281, (ah ++ ([(xp264.1, xp264.2.1, xp264.2.2.1, xp264.2.2.2.1, ())] : List (RPair))), rfl, En335.sub (by kernel_rfl), Hv336.pick [0, 1, 2, 3] (by kernel_rfl) (by decide), hp265, (fun h => by obtain ⟨z, hz⟩ := prB_of h; have h5 := pr_gt hz; have h6 := (hq267 z rfl hz).2; omega), (fun h => ps_y (x := xp264) hgo2 (by omega) hbs h hq267), (fun h => ps_n hgo2 (by omega) hbs h), (fun h => by obtain ⟨z, hz⟩ := prB_of h; have h5 := pr_gt hz; simp only [List.length_append, List.length_cons, List.length_nil]; omega), (by simp only [List.length_append, List.length_cons, List.length_nil]; omega), (mem_snoc hok hl266)⟩, ?_⟩
        exact mu_lt _ _
       | true =>
        have Hv337 : Ev w [] wo121 [.box bk21 [.string (bstr s), ni p117, .bool true] 73, .box bk55 [.int .u64 ((UInt64.toNat (numV false (List.drop (0 + 2) s)) : Nat) : Int), .string (bstr (wdV false (List.drop (0 + 2 + nDg (List.drop (0 + 2) s) + 4) s))), .slice a2 (List.length ah) c2] 25, .vec a2 c2 4 (List.flatMap fPair ah) 35, .box bk1 [.int .u64 0, .string (bstr []), .slice none 0 0] 25] := by have h := Hv126; rw [hbs] at h; exact h
        refine r_c (fun ac wo => ∃ (p473 : _) (xp474 : _) (ao490 : Option Addr) (cp491 : Nat), Env ac 59 [(0, .string (bstr s)), (2, pt bk1), (3, .int .i64 0), (4, .int .i64 0), (5, pt bk21), (6, pt bk55)] ∧ Ev w [] wo [.box bk21 [.string (bstr s), ni p473, .bool (prB true ah s p117)] 73, .box bk55 [.int .u64 ((UInt64.toNat (numV false (List.drop (0 + 2) s)) : Nat) : Int), .string (bstr (wdV false (List.drop (0 + 2 + nDg (List.drop (0 + 2) s) + 4) s))), .slice ao490 (List.length (ah ++ ([(xp474.1, xp474.2.1, xp474.2.2.1, xp474.2.2.2.1, ())] : List (RPair)))) cp491] 25, .vec ao490 cp491 4 (List.flatMap fPair (ah ++ ([(xp474.1, xp474.2.1, xp474.2.2.1, xp474.2.2.2.1, ())] : List (RPair)))) 35, .box bk1 [.int .u64 0, .string (bstr []), .slice none 0 0] 25] ∧ (p473 ≤ List.length s) ∧ (List.length xp474.1 ≤ 1024 ∧ List.length xp474.2.2.2.1 ≤ 1024) ∧ (∀ z, true = false → rdPr ah s p117 = some z → xp474 = z.1 ∧ p473 = z.2)) ?_ ?_
        ·
         refine h_s (fun wv => Ev w [] wv [.box bk55 [.int .u64 ((UInt64.toNat (numV false (List.drop (0 + 2) s)) : Nat) : Int), .string (bstr (wdV false (List.drop (0 + 2 + nDg (List.drop (0 + 2) s) + 4) s))), .slice a2 (List.length ah) c2] 25]) [9] 10 ?_
         have wo338 := Hv337.trans (Ev.drew Hv337.heap)
         refine q_s [0] [] 9 En125 (wo338.pick [1] (by kernel_rfl) (by decide)) fun ac504 En505 => ?_
         refine q_l 0 1 En505 (wo338.pick [1] (by kernel_rfl) (by decide)) fun ac506 En507 => ?_
         refine q_s [2,3] [] 6 En507 (wo338.pick [1] (by kernel_rfl) (by decide)) fun ac508 En509 => ?_
         refine q_l 0 4 En509 (wo338.pick [1] (by kernel_rfl) (by decide)) fun ac510 En511 => ?_
         refine q_t 5 ?_
         refine c_l [0] (M := [.box bk21 [.string (bstr s), ni p117, .bool true] 73]) En511 wo338 (fun hM517 => pair_go _ bk21 s p117 true hs (by omega) a2 c2 ah (wo338.heap.innS (k := 2) (f := fPair) (sz := 4) (by_ := 48) rfl (fun _ => rfl) (by decide) [0] (by kernel_rfl) rfl (by omega) (okA_in hok)) ((ge.ev wo338).pick [0] (by kernel_rfl)) hM517) ?_
         rintro _ wo518 ⟨p512, xp513, rfl, he519, hp514, hl515, hq516⟩
         refine ⟨_, _, [.box bk21 [.string (bstr s), ni p512, .bool (prB true ah s p117)] 73, .box bk55 [.int .u64 ((UInt64.toNat (numV false (List.drop (0 + 2) s)) : Nat) : Int), .string (bstr (wdV false (List.drop (0 + 2 + nDg (List.drop (0 + 2) s) + 4) s))), .slice a2 (List.length ah) c2] 25, .vec a2 c2 4 (List.flatMap fPair ah) 35, .box bk1 [.int .u64 0, .string (bstr []), .slice none 0 0] 25], rfl, he519, by kernel_rfl, fun ac521 En522 Hv523 => ?_⟩
         refine ⟨fun _ => Hv523.pick [1] (by kernel_rfl) (by decide), ?_⟩
         refine q_t 6 ?_
         refine op_lit (d := some 46) (t := 23) (T := 35) (m := 1) (parts := #[(0, .agg #[.string (bstr xp513.1), .bool xp513.2.1, .int .u64 ((UInt64.toNat xp513.2.2.1 : Nat) : Int), .string (bstr xp513.2.2.2.1)])]) (xs := List.flatMap fPair ([(xp513.1, xp513.2.1, xp513.2.2.1, xp513.2.2.2.1, ())] : List (RPair))) (sz := 4) En522 (by kernel_rfl) (by kernel_rfl) rfl (by decide) Hv523 ?_
         intro ac525 wo526 bk524 En527 Hv528
         refine ⟨fun _ => Hv528.pick [1] (by kernel_rfl) (by decide), ?_⟩
         refine q_t 7 ?_
         refine op_append (d := some 47) (t := 23) (tx := 23) (ty := 23) (k := 2) (p := List.length ah) (m := 1) (x := .slice (some ⟨bk524, 0, none⟩) 1 1) (bytes := 48) En527 (by kernel_rfl) Hv528 rfl (sv_len (f := fPair) (sz := 4) (fun _ => rfl) _) (Reads.src (size := 4) (tx := 23) (e' := 35) (by kernel_rfl) (Hv528.heap.reads (k := 4) rfl) rfl (fun e => by cases e) (flat_one (f := fPair) (fun _ => one_all rfl) _)) (by kernel_rfl) (z := .agg #[.string (bstr []), .bool false, .int .u64 0, .string (bstr [])]) (by kernel_rfl) rfl (by decide) (by omega) (by unfold maxLen; omega) ?_
         intro ac533 wo534 ao529 cp530 En535 Hv536 hnz _
         clear hnz
         rw [← List.flatMap_append] at Hv536
         have ehz531 : (List.length ah) + 1 = List.length (ah ++ ([(xp513.1, xp513.2.1, xp513.2.2.1, xp513.2.2.2.1, ())] : List (RPair))) := (by first | (simp; done) | (simp; omega) | omega)
         rw [ehz531] at En535
         refine ⟨fun _ => Hv536.pick [1] (by kernel_rfl) (by decide), ?_⟩
         refine q_s [8] [] 1 En535 (Hv536.pick [1] (by kernel_rfl) (by decide)) fun ac537 En538 => ?_
         refine q_t 9 ?_
         refine m_s 1 [.box bk21 [.string (bstr s), ni p512, .bool (prB true ah s p117)] 73, .box bk55 [.int .u64 ((UInt64.toNat (numV false (List.drop (0 + 2) s)) : Nat) : Int), .string (bstr (wdV false (List.drop (0 + 2 + nDg (List.drop (0 + 2) s) + 4) s))), .slice ao529 (List.length (ah ++ ([(xp513.1, xp513.2.1, xp513.2.2.1, xp513.2.2.2.1, ())] : List (RPair)))) cp530] 25, .vec ao529 cp530 4 (List.flatMap fPair (ah ++ ([(xp513.1, xp513.2.1, xp513.2.2.1, xp513.2.2.2.1, ())] : List (RPair)))) 35, .box bk1 [.int .u64 0, .string (bstr []), .slice none 0 0] 25, .vec (some ⟨bk524, 0, none⟩) 1 4 (List.flatMap fPair ([(xp513.1, xp513.2.1, xp513.2.2.1, xp513.2.2.2.1, ())] : List (RPair))) 35] En538 Hv536 fun ac539 wo540 En541 Hv542 => ?_
         refine ⟨q_y, ?_⟩
         exact h_e ⟨p512, xp513, ao529, cp530, En541.sub (by kernel_rfl), Hv542.pick [0, 1, 2, 3] (by kernel_rfl) (by decide), hp514, hl515, hq516⟩
        rintro ac543 wo544 ⟨p473, xp474, ao490, cp491, En545, Hv546, hp475, hl476, hq477⟩
        refine block_normal ?_
        refine then_normal ?_
        refine ⟨_, ⟨f2, prB true ah s p117, p473, ao490, cp491, (ah ++ ([(xp474.1, xp474.2.1, xp474.2.2.1, xp474.2.2.2.1, ())] : List (RPair))), rfl, En545.sub (by kernel_rfl), Hv546.pick [0, 1, 2, 3] (by kernel_rfl) (by decide), hp475, (fun h => by cases h), (fun h => by cases h), (fun _ => ps_s hgo2 (by omega) hbs), (fun h => by cases h), (by simp only [List.length_append, List.length_cons, List.length_nil]; omega), (mem_snoc hok hl476)⟩, ?_⟩
        exact mu_lt _ _
      ·
       refine wp_exit ?_
       refine then_exit ?_
       refine then_exit ?_
       refine block_exit ?_
       refine then_normal ?_
       refine wp_seq ?_
       refine wp_seq ?_
       refine region_from ?_
       refine d_k [0,2,3,4,5,6,51] [] 3 En113 fun ac547 En548 => ?_
       refine f_o ?_
       refine m_l 0 En548 Hv102 fun ac549 En550 => ?_
       refine f_e ?_
       refine then_normal ?_
       refine c_f En550 ?_
       refine wp_skip ?_
       refine then_normal ?_
       refine wp_seq ?_
       refine region_from ?_
       refine f_o ?_
       refine m_a 1 0 3 [.int .u64 ((UInt64.toNat (numV false (List.drop (0 + 2) s)) : Nat) : Int), .string (bstr (wdV false (List.drop (0 + 2 + nDg (List.drop (0 + 2) s) + 4) s))), .slice a2 (List.length ah) c2] En550 Hv102 rfl rfl rfl fun ac551 En552 => ?_
       refine f_o ?_
       refine m_g 3 0 3 [.int .u64 ((UInt64.toNat (numV false (List.drop (0 + 2) s)) : Nat) : Int), .string (bstr (wdV false (List.drop (0 + 2 + nDg (List.drop (0 + 2) s) + 4) s))), .slice a2 (List.length ah) c2] [.int .u64 ((UInt64.toNat (numV false (List.drop (0 + 2) s)) : Nat) : Int), .string (bstr (wdV false (List.drop (0 + 2 + nDg (List.drop (0 + 2) s) + 4) s))), .slice a2 (List.length ah) c2] [.box bk21 [.string (bstr s), ni q, .bool false] 73, .box bk55 [.int .u64 ((UInt64.toNat (numV false (List.drop (0 + 2) s)) : Nat) : Int), .string (bstr (wdV false (List.drop (0 + 2 + nDg (List.drop (0 + 2) s) + 4) s))), .slice a2 (List.length ah) c2] 25, .vec a2 c2 4 (List.flatMap fPair ah) 35, .box bk1 [.int .u64 ((UInt64.toNat (numV false (List.drop (0 + 2) s)) : Nat) : Int), .string (bstr (wdV false (List.drop (0 + 2 + nDg (List.drop (0 + 2) s) + 4) s))), .slice a2 (List.length ah) c2] 25] En552 Hv102 rfl rfl (by simp) (one_all (by kernel_rfl)) rfl rfl fun ac553 wo554 En555 Hv556 => ?_
       refine d_e [0,2,3,4,5,6] [] En555 fun ac557 En558 => ?_
       refine then_normal ?_
       refine wp_ret ?_
       refine d_cell_tt (v := .agg #[.int .u64 ((UInt64.toNat (numV false (List.drop (0 + 2) s)) : Nat) : Int), .string (bstr (wdV false (List.drop (0 + 2 + nDg (List.drop (0 + 2) s) + 4) s))), .slice a2 (List.length ah) c2]) (x := .int .i64 0) (y := .int .i64 0) (t := 2) (T := 25) (ad := ⟨bk1, 0, none⟩) (u := 3) (s := 4) En558 (by kernel_rfl) (by kernel_rfl) (Ev.cellAgg (t := 25) (k := 3) (off := 0) (m := 3) (xs := [.int .u64 ((UInt64.toNat (numV false (List.drop (0 + 2) s)) : Nat) : Int), .string (bstr (wdV false (List.drop (0 + 2 + nDg (List.drop (0 + 2) s) + 4) s))), .slice a2 (List.length ah) c2]) Hv556 rfl rfl rfl (by kernel_rfl) (by kernel_rfl)) (by kernel_rfl) (by kernel_rfl) ?_
       exact .inr ⟨(numV false (List.drop (0 + 2) s)), (wdV false (List.drop (0 + 2 + nDg (List.drop (0 + 2) s) + 4) s)), ah, a2, c2, ps_end hgo2 (by omega), rfl, Hv556.pick [2] (by kernel_rfl) (by decide), hok, hl1, wdV_len _ _⟩
     | true =>
      refine region_from ?_
      refine d_k [0,2,3,4,5,6,26] [] 3 En101 fun ac559 En560 => ?_
      refine f_o ?_
      refine m_l 0 En560 Hv102 fun ac561 En562 => ?_
      refine d_e [0,2,3,4,5,6,37] [] En562 fun ac563 En564 => ?_
      refine then_normal ?_
      refine c_f En564 ?_
      refine wp_exit ?_
      refine then_exit ?_
      refine then_exit ?_
      refine block_exit ?_
      refine then_normal ?_
      refine wp_seq ?_
      refine wp_seq ?_
      refine region_from ?_
      refine d_k [0,2,3,4,5,6,51] [] 3 En564 fun ac565 En566 => ?_
      refine f_o ?_
      refine m_l 0 En566 Hv102 fun ac567 En568 => ?_
      refine f_e ?_
      refine then_normal ?_
      refine c_t En568 ?_
      refine wp_seq ?_
      refine r_c (fun ac wo => Env ac 59 [(0, .string (bstr s)), (2, pt bk1), (3, ni q), (4, .int .i64 33), (5, pt bk21), (6, pt bk55)] ∧ Ev w [] wo [.box bk21 [.string (bstr s), ni q, .bool true] 73, .box bk55 [.int .u64 ((UInt64.toNat (numV false (List.drop (0 + 2) s)) : Nat) : Int), .string (bstr (wdV false (List.drop (0 + 2 + nDg (List.drop (0 + 2) s) + 4) s))), .slice a2 (List.length ah) c2] 25, .vec a2 c2 4 (List.flatMap fPair ah) 35, .box bk1 [.int .u64 0, .string (bstr []), .slice none 0 0] 25]) ?_ ?_
      ·
       refine h_s (fun wv => Ev w [] wv [.box bk21 [.string (bstr s), ni q, .bool true] 73]) [] 8 ?_
       have wo569 := Hv102.trans (Ev.drew Hv102.heap)
       refine q_s [0,1,2,3] [] 4 En568 (wo569.pick [0] (by kernel_rfl) (by decide)) fun ac598 En599 => ?_
       refine q_l 0 4 En599 (wo569.pick [0] (by kernel_rfl) (by decide)) fun ac600 En601 => ?_
       refine q_t 5 ?_
       refine m_g 3 0 3 [.int .u64 0, .string (bstr []), .slice none 0 0] [.int .u64 0, .string (bstr []), .slice none 0 0] [.box bk21 [.string (bstr s), ni q, .bool true] 73, .box bk55 [.int .u64 ((UInt64.toNat (numV false (List.drop (0 + 2) s)) : Nat) : Int), .string (bstr (wdV false (List.drop (0 + 2 + nDg (List.drop (0 + 2) s) + 4) s))), .slice a2 (List.length ah) c2] 25, .vec a2 c2 4 (List.flatMap fPair ah) 35, .box bk1 [.int .u64 0, .string (bstr []), .slice none 0 0] 25] En601 wo569 rfl rfl (by simp) (one_all (by kernel_rfl)) rfl rfl fun ac602 wo603 En604 Hv605 => ?_
       refine ⟨fun _ => Hv605.pick [0] (by kernel_rfl) (by decide), ?_⟩
       refine q_s [6,7] [] 0 En604 (Hv605.pick [0] (by kernel_rfl) (by decide)) fun ac606 En607 => ?_
       exact h_e ⟨En607.sub (by kernel_rfl), Hv605.pick [0, 1, 2, 3] (by kernel_rfl) (by decide)⟩
      rintro ac608 wo609 ⟨En610, Hv611⟩
      refine then_normal ?_
      refine wp_ret ?_
      refine then_ret ?_
      refine d_cell_tt (v := .agg #[.int .u64 0, .string (bstr []), .slice none 0 0]) (x := ni q) (y := .int .i64 33) (t := 2) (T := 25) (ad := ⟨bk1, 0, none⟩) (u := 3) (s := 4) En610 (by kernel_rfl) (by kernel_rfl) (Ev.cellAgg (t := 25) (k := 3) (off := 0) (m := 3) (xs := [.int .u64 0, .string (bstr []), .slice none 0 0]) Hv611 rfl rfl rfl (by kernel_rfl) (by kernel_rfl)) (by kernel_rfl) (by kernel_rfl) ?_
      have hno : rdL s = none := by first | exact hbd rfl | exact l_0 (by omega)
      exact .inl ⟨hno, q, 33, by decide, (by omega), rfl, Hv611.pick [] (by kernel_rfl) (by decide)⟩
    | true =>
     have hr0 : rdL s = none := l_3 hs hb1 hb2 hb3
     have Hv612 : Ev w [] wo71 [.box bk21 [.string (bstr s), ni p67, .bool true] 73, .box bk1 [.int .u64 0, .string (bstr []), .slice none 0 0] 25, .box bk55 [.int .u64 ((UInt64.toNat (numV false (List.drop (0 + 2) s)) : Nat) : Int), .string (bstr []), .slice none 0 0] 25] := by have h := Hv76; rw [hb3] at h; exact h
     refine region_from ?_
     refine d_k [0,2,3,4,5,6,21] [] 1 En75 fun ac613 En614 => ?_
     refine f_o ?_
     refine c_l [0] (M := [.box bk21 [.string (bstr s), ni p67, .bool true] 73]) En614 Hv612 (fun hM618 => word_go2 _ bk21 s p67 true hs (by omega) hM618) ?_
     rintro _ wo619 ⟨p615, rfl, he620, hp616, hq617⟩
     refine ⟨_, _, [.box bk21 [.string (bstr s), ni p615, .bool (wdB true (List.drop p67 s))] 73, .box bk1 [.int .u64 0, .string (bstr []), .slice none 0 0] 25, .box bk55 [.int .u64 ((UInt64.toNat (numV false (List.drop (0 + 2) s)) : Nat) : Int), .string (bstr []), .slice none 0 0] 25], rfl, he620, by kernel_rfl, fun ac622 En623 Hv624 => ?_⟩
     refine d_k [0,2,3,4,5,6,22,23] [] 3 En623 fun ac625 En626 => ?_
     refine f_o ?_
     refine m_s 2 [.box bk21 [.string (bstr s), ni p615, .bool (wdB true (List.drop p67 s))] 73, .box bk1 [.int .u64 0, .string (bstr []), .slice none 0 0] 25, .box bk55 [.int .u64 ((UInt64.toNat (numV false (List.drop (0 + 2) s)) : Nat) : Int), .string (bstr (wdV true (List.drop p67 s))), .slice none 0 0] 25] En626 Hv624 fun ac627 wo628 En629 Hv630 => ?_
     refine f_e ?_
     refine then_normal ?_
     refine wp_seq ?_
     refine wp_block ?_
     have Hv631 : Ev w [] wo628 [.box bk21 [.string (bstr s), ni p615, .bool (wdB true (List.drop p67 s))] 73, .box bk1 [.int .u64 0, .string (bstr []), .slice none 0 0] 25, .box bk55 [.int .u64 ((UInt64.toNat (numV false (List.drop (0 + 2) s)) : Nat) : Int), .string (bstr (wdV true (List.drop p67 s))), .slice none 0 0] 25, .vec none 0 4 (List.flatMap fPair []) 35] := Ev.nil (sz := 4) (T := 35) Hv630
     refine loop_m (fun ms632 ac wo => ∃ (f : Nat) (b : Bool) (q : Nat) (a2 : Option Addr) (c2 : Nat) (ah : List RPair), ms632 = (bif b then 0 else f : Nat) ∧ Env ac 59 [(0, .string (bstr s)), (2, pt bk1), (3, .int .i64 0), (4, .int .i64 0), (5, pt bk21), (6, pt bk55)] ∧ Ev w [] wo [.box bk21 [.string (bstr s), ni q, .bool b] 73, .box bk55 [.int .u64 ((UInt64.toNat (numV false (List.drop (0 + 2) s)) : Nat) : Int), .string (bstr (wdV true (List.drop p67 s))), .slice a2 (List.length ah) c2] 25, .vec a2 c2 4 (List.flatMap fPair ah) 35, .box bk1 [.int .u64 0, .string (bstr []), .slice none 0 0] 25] ∧ (q ≤ List.length s) ∧ (b = false → List.length s < q + f) ∧ (b = false → rdL s = Option.map (fun ps => (numV false (List.drop (0 + 2) s), wdV true (List.drop p67 s), ps)) (rdPs f ah s q)) ∧ (b = true → rdL s = none) ∧ (b = false → List.length ah ≤ 16) ∧ (List.length ah ≤ 17) ∧ (okA ah)) ⟨_, List.length s + 1, (wdB true (List.drop p67 s)), p615, none, 0, [], rfl, En629.sub (by kernel_rfl), Hv631.pick [0, 2, 3, 1] (by kernel_rfl) (by decide), (by omega), (fun _ => by omega), (fun h => by cases h), (fun _ => hr0), (fun _ => by simp), (by simp), (fun _ h => by cases h)⟩ ?_
     rintro mm638 ac634 wo635 ⟨f, b, q, a2, c2, ah, rfl, En636, Hv637, hq, hf, hgo, hbd, hl16, hl17, hok⟩
     refine wp_seq ?_
     refine wp_seq ?_
     cases b with
     | false =>
      have hgo1 := hgo rfl
      have hf1 := hf rfl
      have hl1 := hl16 rfl
      obtain ⟨f2, rfl⟩ : ∃ f2, f = f2 + 1 := ⟨f - 1, by omega⟩
      have hgo2 := hgo rfl
      refine region_from ?_
      refine d_k [0,2,3,4,5,6,26] [] 3 En636 fun ac639 En640 => ?_
      refine f_o ?_
      refine m_l 0 En640 Hv637 fun ac641 En642 => ?_
      refine d_k [0,2,3,4,5,6,29,32] [] 9 En642 fun ac643 En644 => ?_
      refine f_o ?_
      refine m_l 0 En644 Hv637 fun ac645 En646 => ?_
      refine d_e [0,2,3,4,5,6,37] [] En646 fun ac647 En648 => ?_
      refine then_normal ?_
      refine c_d (((q : Nat) : Int) < ((ByteArray.size (bstr s) : Nat) : Int)) En648 (fun hc649 => ?_) (fun hc649 => ?_)
      ·
       refine wp_skip ?_
       refine then_normal ?_
       refine wp_block ?_
       refine wp_seq ?_
       refine region_from ?_
       refine d_k [0,2,3,4,5,6,38] [] 1 En648 fun ac650 En651 => ?_
       refine f_o ?_
       refine c_l [0] (M := [.box bk21 [.string (bstr s), ni q, .bool false] 73]) En651 Hv637 (fun hM655 => take_go _ bk21 s [32] q false hs (by omega) hM655) ?_
       rintro _ wo656 ⟨p652, rfl, he657, hp653, hq654⟩
       refine ⟨_, _, [.box bk21 [.string (bstr s), ni p652, .bool (tkB false [32] (List.drop q s))] 73, .box bk55 [.int .u64 ((UInt64.toNat (numV false (List.drop (0 + 2) s)) : Nat) : Int), .string (bstr (wdV true (List.drop p67 s))), .slice a2 (List.length ah) c2] 25, .vec a2 c2 4 (List.flatMap fPair ah) 35, .box bk1 [.int .u64 0, .string (bstr []), .slice none 0 0] 25], rfl, he657, by kernel_rfl, fun ac659 En660 Hv661 => ?_⟩
       refine f_e ?_
       refine then_normal ?_
       cases hbs : tkB false [32] (List.drop q s) with
       | false =>
        have hpe_ : p652 = q + 1 := hq654 hbs
        subst hpe_
        have Hv662 : Ev w [] wo656 [.box bk21 [.string (bstr s), .int .i64 ((q + 1 : Nat) : Int), .bool false] 73, .box bk55 [.int .u64 ((UInt64.toNat (numV false (List.drop (0 + 2) s)) : Nat) : Int), .string (bstr (wdV true (List.drop p67 s))), .slice a2 (List.length ah) c2] 25, .vec a2 c2 4 (List.flatMap fPair ah) 35, .box bk1 [.int .u64 0, .string (bstr []), .slice none 0 0] 25] := by have h := Hv661; rw [hbs] at h; exact h
        refine r_c (fun ac wo => ∃ (p798 : _) (xp799 : _) (ao815 : Option Addr) (cp816 : Nat), Env ac 59 [(0, .string (bstr s)), (2, pt bk1), (3, .int .i64 0), (4, .int .i64 0), (5, pt bk21), (6, pt bk55)] ∧ Ev w [] wo [.box bk21 [.string (bstr s), ni p798, .bool (prB false ah s (q + 1))] 73, .box bk55 [.int .u64 ((UInt64.toNat (numV false (List.drop (0 + 2) s)) : Nat) : Int), .string (bstr (wdV true (List.drop p67 s))), .slice ao815 (List.length (ah ++ ([(xp799.1, xp799.2.1, xp799.2.2.1, xp799.2.2.2.1, ())] : List (RPair)))) cp816] 25, .vec ao815 cp816 4 (List.flatMap fPair (ah ++ ([(xp799.1, xp799.2.1, xp799.2.2.1, xp799.2.2.2.1, ())] : List (RPair)))) 35, .box bk1 [.int .u64 0, .string (bstr []), .slice none 0 0] 25] ∧ (p798 ≤ List.length s) ∧ (List.length xp799.1 ≤ 1024 ∧ List.length xp799.2.2.2.1 ≤ 1024) ∧ (∀ z, false = false → rdPr ah s (q + 1) = some z → xp799 = z.1 ∧ p798 = z.2)) ?_ ?_
        ·
         refine h_s (fun wv => Ev w [] wv [.box bk55 [.int .u64 ((UInt64.toNat (numV false (List.drop (0 + 2) s)) : Nat) : Int), .string (bstr (wdV true (List.drop p67 s))), .slice a2 (List.length ah) c2] 25]) [9] 10 ?_
         have wo663 := Hv662.trans (Ev.drew Hv662.heap)
         refine q_s [0] [] 9 En660 (wo663.pick [1] (by kernel_rfl) (by decide)) fun ac829 En830 => ?_
         refine q_l 0 1 En830 (wo663.pick [1] (by kernel_rfl) (by decide)) fun ac831 En832 => ?_
         refine q_s [2,3] [] 6 En832 (wo663.pick [1] (by kernel_rfl) (by decide)) fun ac833 En834 => ?_
         refine q_l 0 4 En834 (wo663.pick [1] (by kernel_rfl) (by decide)) fun ac835 En836 => ?_
         refine q_t 5 ?_
         refine c_l [0] (M := [.box bk21 [.string (bstr s), .int .i64 ((q + 1 : Nat) : Int), .bool false] 73]) En836 wo663 (fun hM842 => pair_go _ bk21 s (q + 1) false hs (by omega) a2 c2 ah (wo663.heap.innS (k := 2) (f := fPair) (sz := 4) (by_ := 48) rfl (fun _ => rfl) (by decide) [0] (by kernel_rfl) rfl (by omega) (okA_in hok)) ((ge.ev wo663).pick [0] (by kernel_rfl)) hM842) ?_
         rintro _ wo843 ⟨p837, xp838, rfl, he844, hp839, hl840, hq841⟩
         refine ⟨_, _, [.box bk21 [.string (bstr s), ni p837, .bool (prB false ah s (q + 1))] 73, .box bk55 [.int .u64 ((UInt64.toNat (numV false (List.drop (0 + 2) s)) : Nat) : Int), .string (bstr (wdV true (List.drop p67 s))), .slice a2 (List.length ah) c2] 25, .vec a2 c2 4 (List.flatMap fPair ah) 35, .box bk1 [.int .u64 0, .string (bstr []), .slice none 0 0] 25], rfl, he844, by kernel_rfl, fun ac846 En847 Hv848 => ?_⟩
         refine ⟨fun _ => Hv848.pick [1] (by kernel_rfl) (by decide), ?_⟩
         refine q_t 6 ?_
         refine op_lit (d := some 46) (t := 23) (T := 35) (m := 1) (parts := #[(0, .agg #[.string (bstr xp838.1), .bool xp838.2.1, .int .u64 ((UInt64.toNat xp838.2.2.1 : Nat) : Int), .string (bstr xp838.2.2.2.1)])]) (xs := List.flatMap fPair ([(xp838.1, xp838.2.1, xp838.2.2.1, xp838.2.2.2.1, ())] : List (RPair))) (sz := 4) En847 (by kernel_rfl) (by kernel_rfl) rfl (by decide) Hv848 ?_
         intro ac850 wo851 bk849 En852 Hv853
         refine ⟨fun _ => Hv853.pick [1] (by kernel_rfl) (by decide), ?_⟩
         refine q_t 7 ?_
         refine op_append (d := some 47) (t := 23) (tx := 23) (ty := 23) (k := 2) (p := List.length ah) (m := 1) (x := .slice (some ⟨bk849, 0, none⟩) 1 1) (bytes := 48) En852 (by kernel_rfl) Hv853 rfl (sv_len (f := fPair) (sz := 4) (fun _ => rfl) _) (Reads.src (size := 4) (tx := 23) (e' := 35) (by kernel_rfl) (Hv853.heap.reads (k := 4) rfl) rfl (fun e => by cases e) (flat_one (f := fPair) (fun _ => one_all rfl) _)) (by kernel_rfl) (z := .agg #[.string (bstr []), .bool false, .int .u64 0, .string (bstr [])]) (by kernel_rfl) rfl (by decide) (by omega) (by unfold maxLen; omega) ?_
         intro ac858 wo859 ao854 cp855 En860 Hv861 hnz _
         clear hnz
         rw [← List.flatMap_append] at Hv861
         have ehz856 : (List.length ah) + 1 = List.length (ah ++ ([(xp838.1, xp838.2.1, xp838.2.2.1, xp838.2.2.2.1, ())] : List (RPair))) := (by first | (simp; done) | (simp; omega) | omega)
         rw [ehz856] at En860
         refine ⟨fun _ => Hv861.pick [1] (by kernel_rfl) (by decide), ?_⟩
         refine q_s [8] [] 1 En860 (Hv861.pick [1] (by kernel_rfl) (by decide)) fun ac862 En863 => ?_
         refine q_t 9 ?_
         refine m_s 1 [.box bk21 [.string (bstr s), ni p837, .bool (prB false ah s (q + 1))] 73, .box bk55 [.int .u64 ((UInt64.toNat (numV false (List.drop (0 + 2) s)) : Nat) : Int), .string (bstr (wdV true (List.drop p67 s))), .slice ao854 (List.length (ah ++ ([(xp838.1, xp838.2.1, xp838.2.2.1, xp838.2.2.2.1, ())] : List (RPair)))) cp855] 25, .vec ao854 cp855 4 (List.flatMap fPair (ah ++ ([(xp838.1, xp838.2.1, xp838.2.2.1, xp838.2.2.2.1, ())] : List (RPair)))) 35, .box bk1 [.int .u64 0, .string (bstr []), .slice none 0 0] 25, .vec (some ⟨bk849, 0, none⟩) 1 4 (List.flatMap fPair ([(xp838.1, xp838.2.1, xp838.2.2.1, xp838.2.2.2.1, ())] : List (RPair))) 35] En863 Hv861 fun ac864 wo865 En866 Hv867 => ?_
         refine ⟨q_y, ?_⟩
         exact h_e ⟨p837, xp838, ao854, cp855, En866.sub (by kernel_rfl), Hv867.pick [0, 1, 2, 3] (by kernel_rfl) (by decide), hp839, hl840, hq841⟩
        rintro ac868 wo869 ⟨p798, xp799, ao815, cp816, En870, Hv871, hp800, hl801, hq802⟩
        refine block_normal ?_
        refine then_normal ?_
        refine ⟨_, ⟨f2, prB false ah s (q + 1), p798, ao815, cp816, (ah ++ ([(xp799.1, xp799.2.1, xp799.2.2.1, xp799.2.2.2.1, ())] : List (RPair))), rfl, En870.sub (by kernel_rfl), Hv871.pick [0, 1, 2, 3] (by kernel_rfl) (by decide), hp800, (fun h => by obtain ⟨z, hz⟩ := prB_of h; have h5 := pr_gt hz; have h6 := (hq802 z rfl hz).2; omega), (fun h => ps_y (x := xp799) hgo2 (by omega) hbs h hq802), (fun h => ps_n hgo2 (by omega) hbs h), (fun h => by obtain ⟨z, hz⟩ := prB_of h; have h5 := pr_gt hz; simp only [List.length_append, List.length_cons, List.length_nil]; omega), (by simp only [List.length_append, List.length_cons, List.length_nil]; omega), (mem_snoc hok hl801)⟩, ?_⟩
        exact mu_lt _ _
       | true =>
        have Hv872 : Ev w [] wo656 [.box bk21 [.string (bstr s), ni p652, .bool true] 73, .box bk55 [.int .u64 ((UInt64.toNat (numV false (List.drop (0 + 2) s)) : Nat) : Int), .string (bstr (wdV true (List.drop p67 s))), .slice a2 (List.length ah) c2] 25, .vec a2 c2 4 (List.flatMap fPair ah) 35, .box bk1 [.int .u64 0, .string (bstr []), .slice none 0 0] 25] := by have h := Hv661; rw [hbs] at h; exact h
        refine r_c (fun ac wo => ∃ (p1008 : _) (xp1009 : _) (ao1025 : Option Addr) (cp1026 : Nat), Env ac 59 [(0, .string (bstr s)), (2, pt bk1), (3, .int .i64 0), (4, .int .i64 0), (5, pt bk21), (6, pt bk55)] ∧ Ev w [] wo [.box bk21 [.string (bstr s), ni p1008, .bool (prB true ah s p652)] 73, .box bk55 [.int .u64 ((UInt64.toNat (numV false (List.drop (0 + 2) s)) : Nat) : Int), .string (bstr (wdV true (List.drop p67 s))), .slice ao1025 (List.length (ah ++ ([(xp1009.1, xp1009.2.1, xp1009.2.2.1, xp1009.2.2.2.1, ())] : List (RPair)))) cp1026] 25, .vec ao1025 cp1026 4 (List.flatMap fPair (ah ++ ([(xp1009.1, xp1009.2.1, xp1009.2.2.1, xp1009.2.2.2.1, ())] : List (RPair)))) 35, .box bk1 [.int .u64 0, .string (bstr []), .slice none 0 0] 25] ∧ (p1008 ≤ List.length s) ∧ (List.length xp1009.1 ≤ 1024 ∧ List.length xp1009.2.2.2.1 ≤ 1024) ∧ (∀ z, true = false → rdPr ah s p652 = some z → xp1009 = z.1 ∧ p1008 = z.2)) ?_ ?_
        ·
         refine h_s (fun wv => Ev w [] wv [.box bk55 [.int .u64 ((UInt64.toNat (numV false (List.drop (0 + 2) s)) : Nat) : Int), .string (bstr (wdV true (List.drop p67 s))), .slice a2 (List.length ah) c2] 25]) [9] 10 ?_
         have wo873 := Hv872.trans (Ev.drew Hv872.heap)
         refine q_s [0] [] 9 En660 (wo873.pick [1] (by kernel_rfl) (by decide)) fun ac1039 En1040 => ?_
         refine q_l 0 1 En1040 (wo873.pick [1] (by kernel_rfl) (by decide)) fun ac1041 En1042 => ?_
         refine q_s [2,3] [] 6 En1042 (wo873.pick [1] (by kernel_rfl) (by decide)) fun ac1043 En1044 => ?_
         refine q_l 0 4 En1044 (wo873.pick [1] (by kernel_rfl) (by decide)) fun ac1045 En1046 => ?_
         refine q_t 5 ?_
         refine c_l [0] (M := [.box bk21 [.string (bstr s), ni p652, .bool true] 73]) En1046 wo873 (fun hM1052 => pair_go _ bk21 s p652 true hs (by omega) a2 c2 ah (wo873.heap.innS (k := 2) (f := fPair) (sz := 4) (by_ := 48) rfl (fun _ => rfl) (by decide) [0] (by kernel_rfl) rfl (by omega) (okA_in hok)) ((ge.ev wo873).pick [0] (by kernel_rfl)) hM1052) ?_
         rintro _ wo1053 ⟨p1047, xp1048, rfl, he1054, hp1049, hl1050, hq1051⟩
         refine ⟨_, _, [.box bk21 [.string (bstr s), ni p1047, .bool (prB true ah s p652)] 73, .box bk55 [.int .u64 ((UInt64.toNat (numV false (List.drop (0 + 2) s)) : Nat) : Int), .string (bstr (wdV true (List.drop p67 s))), .slice a2 (List.length ah) c2] 25, .vec a2 c2 4 (List.flatMap fPair ah) 35, .box bk1 [.int .u64 0, .string (bstr []), .slice none 0 0] 25], rfl, he1054, by kernel_rfl, fun ac1056 En1057 Hv1058 => ?_⟩
         refine ⟨fun _ => Hv1058.pick [1] (by kernel_rfl) (by decide), ?_⟩
         refine q_t 6 ?_
         refine op_lit (d := some 46) (t := 23) (T := 35) (m := 1) (parts := #[(0, .agg #[.string (bstr xp1048.1), .bool xp1048.2.1, .int .u64 ((UInt64.toNat xp1048.2.2.1 : Nat) : Int), .string (bstr xp1048.2.2.2.1)])]) (xs := List.flatMap fPair ([(xp1048.1, xp1048.2.1, xp1048.2.2.1, xp1048.2.2.2.1, ())] : List (RPair))) (sz := 4) En1057 (by kernel_rfl) (by kernel_rfl) rfl (by decide) Hv1058 ?_
         intro ac1060 wo1061 bk1059 En1062 Hv1063
         refine ⟨fun _ => Hv1063.pick [1] (by kernel_rfl) (by decide), ?_⟩
         refine q_t 7 ?_
         refine op_append (d := some 47) (t := 23) (tx := 23) (ty := 23) (k := 2) (p := List.length ah) (m := 1) (x := .slice (some ⟨bk1059, 0, none⟩) 1 1) (bytes := 48) En1062 (by kernel_rfl) Hv1063 rfl (sv_len (f := fPair) (sz := 4) (fun _ => rfl) _) (Reads.src (size := 4) (tx := 23) (e' := 35) (by kernel_rfl) (Hv1063.heap.reads (k := 4) rfl) rfl (fun e => by cases e) (flat_one (f := fPair) (fun _ => one_all rfl) _)) (by kernel_rfl) (z := .agg #[.string (bstr []), .bool false, .int .u64 0, .string (bstr [])]) (by kernel_rfl) rfl (by decide) (by omega) (by unfold maxLen; omega) ?_
         intro ac1068 wo1069 ao1064 cp1065 En1070 Hv1071 hnz _
         clear hnz
         rw [← List.flatMap_append] at Hv1071
         have ehz1066 : (List.length ah) + 1 = List.length (ah ++ ([(xp1048.1, xp1048.2.1, xp1048.2.2.1, xp1048.2.2.2.1, ())] : List (RPair))) := (by first | (simp; done) | (simp; omega) | omega)
         rw [ehz1066] at En1070
         refine ⟨fun _ => Hv1071.pick [1] (by kernel_rfl) (by decide), ?_⟩
         refine q_s [8] [] 1 En1070 (Hv1071.pick [1] (by kernel_rfl) (by decide)) fun ac1072 En1073 => ?_
         refine q_t 9 ?_
         refine m_s 1 [.box bk21 [.string (bstr s), ni p1047, .bool (prB true ah s p652)] 73, .box bk55 [.int .u64 ((UInt64.toNat (numV false (List.drop (0 + 2) s)) : Nat) : Int), .string (bstr (wdV true (List.drop p67 s))), .slice ao1064 (List.length (ah ++ ([(xp1048.1, xp1048.2.1, xp1048.2.2.1, xp1048.2.2.2.1, ())] : List (RPair)))) cp1065] 25, .vec ao1064 cp1065 4 (List.flatMap fPair (ah ++ ([(xp1048.1, xp1048.2.1, xp1048.2.2.1, xp1048.2.2.2.1, ())] : List (RPair)))) 35, .box bk1 [.int .u64 0, .string (bstr []), .slice none 0 0] 25, .vec (some ⟨bk1059, 0, none⟩) 1 4 (List.flatMap fPair ([(xp1048.1, xp1048.2.1, xp1048.2.2.1, xp1048.2.2.2.1, ())] : List (RPair))) 35] En1073 Hv1071 fun ac1074 wo1075 En1076 Hv1077 => ?_
         refine ⟨q_y, ?_⟩
         exact h_e ⟨p1047, xp1048, ao1064, cp1065, En1076.sub (by kernel_rfl), Hv1077.pick [0, 1, 2, 3] (by kernel_rfl) (by decide), hp1049, hl1050, hq1051⟩
        rintro ac1078 wo1079 ⟨p1008, xp1009, ao1025, cp1026, En1080, Hv1081, hp1010, hl1011, hq1012⟩
        refine block_normal ?_
        refine then_normal ?_
        refine ⟨_, ⟨f2, prB true ah s p652, p1008, ao1025, cp1026, (ah ++ ([(xp1009.1, xp1009.2.1, xp1009.2.2.1, xp1009.2.2.2.1, ())] : List (RPair))), rfl, En1080.sub (by kernel_rfl), Hv1081.pick [0, 1, 2, 3] (by kernel_rfl) (by decide), hp1010, (fun h => by cases h), (fun h => by cases h), (fun _ => ps_s hgo2 (by omega) hbs), (fun h => by cases h), (by simp only [List.length_append, List.length_cons, List.length_nil]; omega), (mem_snoc hok hl1011)⟩, ?_⟩
        exact mu_lt _ _
      ·
       refine wp_exit ?_
       refine then_exit ?_
       refine then_exit ?_
       refine block_exit ?_
       refine then_normal ?_
       refine wp_seq ?_
       refine wp_seq ?_
       refine region_from ?_
       refine d_k [0,2,3,4,5,6,51] [] 3 En648 fun ac1082 En1083 => ?_
       refine f_o ?_
       refine m_l 0 En1083 Hv637 fun ac1084 En1085 => ?_
       refine f_e ?_
       refine then_normal ?_
       refine c_f En1085 ?_
       refine wp_skip ?_
       refine then_normal ?_
       refine wp_seq ?_
       refine region_from ?_
       refine f_o ?_
       refine m_a 1 0 3 [.int .u64 ((UInt64.toNat (numV false (List.drop (0 + 2) s)) : Nat) : Int), .string (bstr (wdV true (List.drop p67 s))), .slice a2 (List.length ah) c2] En1085 Hv637 rfl rfl rfl fun ac1086 En1087 => ?_
       refine f_o ?_
       refine m_g 3 0 3 [.int .u64 ((UInt64.toNat (numV false (List.drop (0 + 2) s)) : Nat) : Int), .string (bstr (wdV true (List.drop p67 s))), .slice a2 (List.length ah) c2] [.int .u64 ((UInt64.toNat (numV false (List.drop (0 + 2) s)) : Nat) : Int), .string (bstr (wdV true (List.drop p67 s))), .slice a2 (List.length ah) c2] [.box bk21 [.string (bstr s), ni q, .bool false] 73, .box bk55 [.int .u64 ((UInt64.toNat (numV false (List.drop (0 + 2) s)) : Nat) : Int), .string (bstr (wdV true (List.drop p67 s))), .slice a2 (List.length ah) c2] 25, .vec a2 c2 4 (List.flatMap fPair ah) 35, .box bk1 [.int .u64 ((UInt64.toNat (numV false (List.drop (0 + 2) s)) : Nat) : Int), .string (bstr (wdV true (List.drop p67 s))), .slice a2 (List.length ah) c2] 25] En1087 Hv637 rfl rfl (by simp) (one_all (by kernel_rfl)) rfl rfl fun ac1088 wo1089 En1090 Hv1091 => ?_
       refine d_e [0,2,3,4,5,6] [] En1090 fun ac1092 En1093 => ?_
       refine then_normal ?_
       refine wp_ret ?_
       refine d_cell_tt (v := .agg #[.int .u64 ((UInt64.toNat (numV false (List.drop (0 + 2) s)) : Nat) : Int), .string (bstr (wdV true (List.drop p67 s))), .slice a2 (List.length ah) c2]) (x := .int .i64 0) (y := .int .i64 0) (t := 2) (T := 25) (ad := ⟨bk1, 0, none⟩) (u := 3) (s := 4) En1093 (by kernel_rfl) (by kernel_rfl) (Ev.cellAgg (t := 25) (k := 3) (off := 0) (m := 3) (xs := [.int .u64 ((UInt64.toNat (numV false (List.drop (0 + 2) s)) : Nat) : Int), .string (bstr (wdV true (List.drop p67 s))), .slice a2 (List.length ah) c2]) Hv1091 rfl rfl rfl (by kernel_rfl) (by kernel_rfl)) (by kernel_rfl) (by kernel_rfl) ?_
       exact .inr ⟨(numV false (List.drop (0 + 2) s)), (wdV true (List.drop p67 s)), ah, a2, c2, ps_end hgo2 (by omega), rfl, Hv1091.pick [2] (by kernel_rfl) (by decide), hok, hl1, wdV_len _ _⟩
     | true =>
      refine region_from ?_
      refine d_k [0,2,3,4,5,6,26] [] 3 En636 fun ac1094 En1095 => ?_
      refine f_o ?_
      refine m_l 0 En1095 Hv637 fun ac1096 En1097 => ?_
      refine d_e [0,2,3,4,5,6,37] [] En1097 fun ac1098 En1099 => ?_
      refine then_normal ?_
      refine c_f En1099 ?_
      refine wp_exit ?_
      refine then_exit ?_
      refine then_exit ?_
      refine block_exit ?_
      refine then_normal ?_
      refine wp_seq ?_
      refine wp_seq ?_
      refine region_from ?_
      refine d_k [0,2,3,4,5,6,51] [] 3 En1099 fun ac1100 En1101 => ?_
      refine f_o ?_
      refine m_l 0 En1101 Hv637 fun ac1102 En1103 => ?_
      refine f_e ?_
      refine then_normal ?_
      refine c_t En1103 ?_
      refine wp_seq ?_
      refine r_c (fun ac wo => Env ac 59 [(0, .string (bstr s)), (2, pt bk1), (3, ni q), (4, .int .i64 33), (5, pt bk21), (6, pt bk55)] ∧ Ev w [] wo [.box bk21 [.string (bstr s), ni q, .bool true] 73, .box bk55 [.int .u64 ((UInt64.toNat (numV false (List.drop (0 + 2) s)) : Nat) : Int), .string (bstr (wdV true (List.drop p67 s))), .slice a2 (List.length ah) c2] 25, .vec a2 c2 4 (List.flatMap fPair ah) 35, .box bk1 [.int .u64 0, .string (bstr []), .slice none 0 0] 25]) ?_ ?_
      ·
       refine h_s (fun wv => Ev w [] wv [.box bk21 [.string (bstr s), ni q, .bool true] 73]) [] 8 ?_
       have wo1104 := Hv637.trans (Ev.drew Hv637.heap)
       refine q_s [0,1,2,3] [] 4 En1103 (wo1104.pick [0] (by kernel_rfl) (by decide)) fun ac1133 En1134 => ?_
       refine q_l 0 4 En1134 (wo1104.pick [0] (by kernel_rfl) (by decide)) fun ac1135 En1136 => ?_
       refine q_t 5 ?_
       refine m_g 3 0 3 [.int .u64 0, .string (bstr []), .slice none 0 0] [.int .u64 0, .string (bstr []), .slice none 0 0] [.box bk21 [.string (bstr s), ni q, .bool true] 73, .box bk55 [.int .u64 ((UInt64.toNat (numV false (List.drop (0 + 2) s)) : Nat) : Int), .string (bstr (wdV true (List.drop p67 s))), .slice a2 (List.length ah) c2] 25, .vec a2 c2 4 (List.flatMap fPair ah) 35, .box bk1 [.int .u64 0, .string (bstr []), .slice none 0 0] 25] En1136 wo1104 rfl rfl (by simp) (one_all (by kernel_rfl)) rfl rfl fun ac1137 wo1138 En1139 Hv1140 => ?_
       refine ⟨fun _ => Hv1140.pick [0] (by kernel_rfl) (by decide), ?_⟩
       refine q_s [6,7] [] 0 En1139 (Hv1140.pick [0] (by kernel_rfl) (by decide)) fun ac1141 En1142 => ?_
       exact h_e ⟨En1142.sub (by kernel_rfl), Hv1140.pick [0, 1, 2, 3] (by kernel_rfl) (by decide)⟩
      rintro ac1143 wo1144 ⟨En1145, Hv1146⟩
      refine then_normal ?_
      refine wp_ret ?_
      refine then_ret ?_
      refine d_cell_tt (v := .agg #[.int .u64 0, .string (bstr []), .slice none 0 0]) (x := ni q) (y := .int .i64 33) (t := 2) (T := 25) (ad := ⟨bk1, 0, none⟩) (u := 3) (s := 4) En1145 (by kernel_rfl) (by kernel_rfl) (Ev.cellAgg (t := 25) (k := 3) (off := 0) (m := 3) (xs := [.int .u64 0, .string (bstr []), .slice none 0 0]) Hv1146 rfl rfl rfl (by kernel_rfl) (by kernel_rfl)) (by kernel_rfl) (by kernel_rfl) ?_
      have hno : rdL s = none := by first | exact hbd rfl | exact l_0 (by omega)
      exact .inl ⟨hno, q, 33, by decide, (by omega), rfl, Hv1146.pick [] (by kernel_rfl) (by decide)⟩
   | true =>
    have hr0 : rdL s = none := l_2 hs hb1 hb2
    have Hv1147 : Ev w [] wo61 [.box bk21 [.string (bstr s), ni p43, .bool true] 73, .box bk1 [.int .u64 0, .string (bstr []), .slice none 0 0] 25, .box bk55 [.int .u64 ((UInt64.toNat (numV false (List.drop (0 + 2) s)) : Nat) : Int), .string (bstr []), .slice none 0 0] 25] := by have h := Hv63; rw [hb2] at h; exact h
    refine region_from ?_
    refine d_k [0,2,3,4,5,6,19] [] 1 En62 fun ac1148 En1149 => ?_
    refine f_o ?_
    refine c_l [0] (M := [.box bk21 [.string (bstr s), ni p43, .bool true] 73]) En1149 Hv1147 (fun hM1153 => take_go _ bk21 s [32, 101, 118, 61] p43 true hs (by omega) hM1153) ?_
    rintro _ wo1154 ⟨p1150, rfl, he1155, hp1151, hq1152⟩
    refine ⟨_, _, [.box bk21 [.string (bstr s), ni p1150, .bool (tkB true [32, 101, 118, 61] (List.drop p43 s))] 73, .box bk1 [.int .u64 0, .string (bstr []), .slice none 0 0] 25, .box bk55 [.int .u64 ((UInt64.toNat (numV false (List.drop (0 + 2) s)) : Nat) : Int), .string (bstr []), .slice none 0 0] 25], rfl, he1155, by kernel_rfl, fun ac1157 En1158 Hv1159 => ?_⟩
    refine f_e ?_
    refine then_normal ?_
    refine wp_seq ?_
    have Hv1160 : Ev w [] wo1154 [.box bk21 [.string (bstr s), ni p1150, .bool true] 73, .box bk1 [.int .u64 0, .string (bstr []), .slice none 0 0] 25, .box bk55 [.int .u64 ((UInt64.toNat (numV false (List.drop (0 + 2) s)) : Nat) : Int), .string (bstr []), .slice none 0 0] 25] := by have h := Hv1159; skip; exact h
    refine region_from ?_
    refine d_k [0,2,3,4,5,6,21] [] 1 En1158 fun ac1161 En1162 => ?_
    refine f_o ?_
    refine c_l [0] (M := [.box bk21 [.string (bstr s), ni p1150, .bool true] 73]) En1162 Hv1160 (fun hM1166 => word_go2 _ bk21 s p1150 true hs (by omega) hM1166) ?_
    rintro _ wo1167 ⟨p1163, rfl, he1168, hp1164, hq1165⟩
    refine ⟨_, _, [.box bk21 [.string (bstr s), ni p1163, .bool (wdB true (List.drop p1150 s))] 73, .box bk1 [.int .u64 0, .string (bstr []), .slice none 0 0] 25, .box bk55 [.int .u64 ((UInt64.toNat (numV false (List.drop (0 + 2) s)) : Nat) : Int), .string (bstr []), .slice none 0 0] 25], rfl, he1168, by kernel_rfl, fun ac1170 En1171 Hv1172 => ?_⟩
    refine d_k [0,2,3,4,5,6,22,23] [] 3 En1171 fun ac1173 En1174 => ?_
    refine f_o ?_
    refine m_s 2 [.box bk21 [.string (bstr s), ni p1163, .bool (wdB true (List.drop p1150 s))] 73, .box bk1 [.int .u64 0, .string (bstr []), .slice none 0 0] 25, .box bk55 [.int .u64 ((UInt64.toNat (numV false (List.drop (0 + 2) s)) : Nat) : Int), .string (bstr (wdV true (List.drop p1150 s))), .slice none 0 0] 25] En1174 Hv1172 fun ac1175 wo1176 En1177 Hv1178 => ?_
    refine f_e ?_
    refine then_normal ?_
    refine wp_seq ?_
    refine wp_block ?_
    have Hv1179 : Ev w [] wo1176 [.box bk21 [.string (bstr s), ni p1163, .bool (wdB true (List.drop p1150 s))] 73, .box bk1 [.int .u64 0, .string (bstr []), .slice none 0 0] 25, .box bk55 [.int .u64 ((UInt64.toNat (numV false (List.drop (0 + 2) s)) : Nat) : Int), .string (bstr (wdV true (List.drop p1150 s))), .slice none 0 0] 25, .vec none 0 4 (List.flatMap fPair []) 35] := Ev.nil (sz := 4) (T := 35) Hv1178
    refine loop_m (fun ms1180 ac wo => ∃ (f : Nat) (b : Bool) (q : Nat) (a2 : Option Addr) (c2 : Nat) (ah : List RPair), ms1180 = (bif b then 0 else f : Nat) ∧ Env ac 59 [(0, .string (bstr s)), (2, pt bk1), (3, .int .i64 0), (4, .int .i64 0), (5, pt bk21), (6, pt bk55)] ∧ Ev w [] wo [.box bk21 [.string (bstr s), ni q, .bool b] 73, .box bk55 [.int .u64 ((UInt64.toNat (numV false (List.drop (0 + 2) s)) : Nat) : Int), .string (bstr (wdV true (List.drop p1150 s))), .slice a2 (List.length ah) c2] 25, .vec a2 c2 4 (List.flatMap fPair ah) 35, .box bk1 [.int .u64 0, .string (bstr []), .slice none 0 0] 25] ∧ (q ≤ List.length s) ∧ (b = false → List.length s < q + f) ∧ (b = false → rdL s = Option.map (fun ps => (numV false (List.drop (0 + 2) s), wdV true (List.drop p1150 s), ps)) (rdPs f ah s q)) ∧ (b = true → rdL s = none) ∧ (b = false → List.length ah ≤ 16) ∧ (List.length ah ≤ 17) ∧ (okA ah)) ⟨_, List.length s + 1, (wdB true (List.drop p1150 s)), p1163, none, 0, [], rfl, En1177.sub (by kernel_rfl), Hv1179.pick [0, 2, 3, 1] (by kernel_rfl) (by decide), (by omega), (fun _ => by omega), (fun h => by cases h), (fun _ => hr0), (fun _ => by simp), (by simp), (fun _ h => by cases h)⟩ ?_
    rintro mm1186 ac1182 wo1183 ⟨f, b, q, a2, c2, ah, rfl, En1184, Hv1185, hq, hf, hgo, hbd, hl16, hl17, hok⟩
    refine wp_seq ?_
    refine wp_seq ?_
    cases b with
    | false =>
     have hgo1 := hgo rfl
     have hf1 := hf rfl
     have hl1 := hl16 rfl
     obtain ⟨f2, rfl⟩ : ∃ f2, f = f2 + 1 := ⟨f - 1, by omega⟩
     have hgo2 := hgo rfl
     refine region_from ?_
     refine d_k [0,2,3,4,5,6,26] [] 3 En1184 fun ac1187 En1188 => ?_
     refine f_o ?_
     refine m_l 0 En1188 Hv1185 fun ac1189 En1190 => ?_
     refine d_k [0,2,3,4,5,6,29,32] [] 9 En1190 fun ac1191 En1192 => ?_
     refine f_o ?_
     refine m_l 0 En1192 Hv1185 fun ac1193 En1194 => ?_
     refine d_e [0,2,3,4,5,6,37] [] En1194 fun ac1195 En1196 => ?_
     refine then_normal ?_
     refine c_d (((q : Nat) : Int) < ((ByteArray.size (bstr s) : Nat) : Int)) En1196 (fun hc1197 => ?_) (fun hc1197 => ?_)
     ·
      refine wp_skip ?_
      refine then_normal ?_
      refine wp_block ?_
      refine wp_seq ?_
      refine region_from ?_
      refine d_k [0,2,3,4,5,6,38] [] 1 En1196 fun ac1198 En1199 => ?_
      refine f_o ?_
      refine c_l [0] (M := [.box bk21 [.string (bstr s), ni q, .bool false] 73]) En1199 Hv1185 (fun hM1203 => take_go _ bk21 s [32] q false hs (by omega) hM1203) ?_
      rintro _ wo1204 ⟨p1200, rfl, he1205, hp1201, hq1202⟩
      refine ⟨_, _, [.box bk21 [.string (bstr s), ni p1200, .bool (tkB false [32] (List.drop q s))] 73, .box bk55 [.int .u64 ((UInt64.toNat (numV false (List.drop (0 + 2) s)) : Nat) : Int), .string (bstr (wdV true (List.drop p1150 s))), .slice a2 (List.length ah) c2] 25, .vec a2 c2 4 (List.flatMap fPair ah) 35, .box bk1 [.int .u64 0, .string (bstr []), .slice none 0 0] 25], rfl, he1205, by kernel_rfl, fun ac1207 En1208 Hv1209 => ?_⟩
      refine f_e ?_
      refine then_normal ?_
      cases hbs : tkB false [32] (List.drop q s) with
      | false =>
       have hpe_ : p1200 = q + 1 := hq1202 hbs
       subst hpe_
       have Hv1210 : Ev w [] wo1204 [.box bk21 [.string (bstr s), .int .i64 ((q + 1 : Nat) : Int), .bool false] 73, .box bk55 [.int .u64 ((UInt64.toNat (numV false (List.drop (0 + 2) s)) : Nat) : Int), .string (bstr (wdV true (List.drop p1150 s))), .slice a2 (List.length ah) c2] 25, .vec a2 c2 4 (List.flatMap fPair ah) 35, .box bk1 [.int .u64 0, .string (bstr []), .slice none 0 0] 25] := by have h := Hv1209; rw [hbs] at h; exact h
       refine r_c (fun ac wo => ∃ (p1346 : _) (xp1347 : _) (ao1363 : Option Addr) (cp1364 : Nat), Env ac 59 [(0, .string (bstr s)), (2, pt bk1), (3, .int .i64 0), (4, .int .i64 0), (5, pt bk21), (6, pt bk55)] ∧ Ev w [] wo [.box bk21 [.string (bstr s), ni p1346, .bool (prB false ah s (q + 1))] 73, .box bk55 [.int .u64 ((UInt64.toNat (numV false (List.drop (0 + 2) s)) : Nat) : Int), .string (bstr (wdV true (List.drop p1150 s))), .slice ao1363 (List.length (ah ++ ([(xp1347.1, xp1347.2.1, xp1347.2.2.1, xp1347.2.2.2.1, ())] : List (RPair)))) cp1364] 25, .vec ao1363 cp1364 4 (List.flatMap fPair (ah ++ ([(xp1347.1, xp1347.2.1, xp1347.2.2.1, xp1347.2.2.2.1, ())] : List (RPair)))) 35, .box bk1 [.int .u64 0, .string (bstr []), .slice none 0 0] 25] ∧ (p1346 ≤ List.length s) ∧ (List.length xp1347.1 ≤ 1024 ∧ List.length xp1347.2.2.2.1 ≤ 1024) ∧ (∀ z, false = false → rdPr ah s (q + 1) = some z → xp1347 = z.1 ∧ p1346 = z.2)) ?_ ?_
       ·
        refine h_s (fun wv => Ev w [] wv [.box bk55 [.int .u64 ((UInt64.toNat (numV false (List.drop (0 + 2) s)) : Nat) : Int), .string (bstr (wdV true (List.drop p1150 s))), .slice a2 (List.length ah) c2] 25]) [9] 10 ?_
        have wo1211 := Hv1210.trans (Ev.drew Hv1210.heap)
        refine q_s [0] [] 9 En1208 (wo1211.pick [1] (by kernel_rfl) (by decide)) fun ac1377 En1378 => ?_
        refine q_l 0 1 En1378 (wo1211.pick [1] (by kernel_rfl) (by decide)) fun ac1379 En1380 => ?_
        refine q_s [2,3] [] 6 En1380 (wo1211.pick [1] (by kernel_rfl) (by decide)) fun ac1381 En1382 => ?_
        refine q_l 0 4 En1382 (wo1211.pick [1] (by kernel_rfl) (by decide)) fun ac1383 En1384 => ?_
        refine q_t 5 ?_
        refine c_l [0] (M := [.box bk21 [.string (bstr s), .int .i64 ((q + 1 : Nat) : Int), .bool false] 73]) En1384 wo1211 (fun hM1390 => pair_go _ bk21 s (q + 1) false hs (by omega) a2 c2 ah (wo1211.heap.innS (k := 2) (f := fPair) (sz := 4) (by_ := 48) rfl (fun _ => rfl) (by decide) [0] (by kernel_rfl) rfl (by omega) (okA_in hok)) ((ge.ev wo1211).pick [0] (by kernel_rfl)) hM1390) ?_
        rintro _ wo1391 ⟨p1385, xp1386, rfl, he1392, hp1387, hl1388, hq1389⟩
        refine ⟨_, _, [.box bk21 [.string (bstr s), ni p1385, .bool (prB false ah s (q + 1))] 73, .box bk55 [.int .u64 ((UInt64.toNat (numV false (List.drop (0 + 2) s)) : Nat) : Int), .string (bstr (wdV true (List.drop p1150 s))), .slice a2 (List.length ah) c2] 25, .vec a2 c2 4 (List.flatMap fPair ah) 35, .box bk1 [.int .u64 0, .string (bstr []), .slice none 0 0] 25], rfl, he1392, by kernel_rfl, fun ac1394 En1395 Hv1396 => ?_⟩
        refine ⟨fun _ => Hv1396.pick [1] (by kernel_rfl) (by decide), ?_⟩
        refine q_t 6 ?_
        refine op_lit (d := some 46) (t := 23) (T := 35) (m := 1) (parts := #[(0, .agg #[.string (bstr xp1386.1), .bool xp1386.2.1, .int .u64 ((UInt64.toNat xp1386.2.2.1 : Nat) : Int), .string (bstr xp1386.2.2.2.1)])]) (xs := List.flatMap fPair ([(xp1386.1, xp1386.2.1, xp1386.2.2.1, xp1386.2.2.2.1, ())] : List (RPair))) (sz := 4) En1395 (by kernel_rfl) (by kernel_rfl) rfl (by decide) Hv1396 ?_
        intro ac1398 wo1399 bk1397 En1400 Hv1401
        refine ⟨fun _ => Hv1401.pick [1] (by kernel_rfl) (by decide), ?_⟩
        refine q_t 7 ?_
        refine op_append (d := some 47) (t := 23) (tx := 23) (ty := 23) (k := 2) (p := List.length ah) (m := 1) (x := .slice (some ⟨bk1397, 0, none⟩) 1 1) (bytes := 48) En1400 (by kernel_rfl) Hv1401 rfl (sv_len (f := fPair) (sz := 4) (fun _ => rfl) _) (Reads.src (size := 4) (tx := 23) (e' := 35) (by kernel_rfl) (Hv1401.heap.reads (k := 4) rfl) rfl (fun e => by cases e) (flat_one (f := fPair) (fun _ => one_all rfl) _)) (by kernel_rfl) (z := .agg #[.string (bstr []), .bool false, .int .u64 0, .string (bstr [])]) (by kernel_rfl) rfl (by decide) (by omega) (by unfold maxLen; omega) ?_
        intro ac1406 wo1407 ao1402 cp1403 En1408 Hv1409 hnz _
        clear hnz
        rw [← List.flatMap_append] at Hv1409
        have ehz1404 : (List.length ah) + 1 = List.length (ah ++ ([(xp1386.1, xp1386.2.1, xp1386.2.2.1, xp1386.2.2.2.1, ())] : List (RPair))) := (by first | (simp; done) | (simp; omega) | omega)
        rw [ehz1404] at En1408
        refine ⟨fun _ => Hv1409.pick [1] (by kernel_rfl) (by decide), ?_⟩
        refine q_s [8] [] 1 En1408 (Hv1409.pick [1] (by kernel_rfl) (by decide)) fun ac1410 En1411 => ?_
        refine q_t 9 ?_
        refine m_s 1 [.box bk21 [.string (bstr s), ni p1385, .bool (prB false ah s (q + 1))] 73, .box bk55 [.int .u64 ((UInt64.toNat (numV false (List.drop (0 + 2) s)) : Nat) : Int), .string (bstr (wdV true (List.drop p1150 s))), .slice ao1402 (List.length (ah ++ ([(xp1386.1, xp1386.2.1, xp1386.2.2.1, xp1386.2.2.2.1, ())] : List (RPair)))) cp1403] 25, .vec ao1402 cp1403 4 (List.flatMap fPair (ah ++ ([(xp1386.1, xp1386.2.1, xp1386.2.2.1, xp1386.2.2.2.1, ())] : List (RPair)))) 35, .box bk1 [.int .u64 0, .string (bstr []), .slice none 0 0] 25, .vec (some ⟨bk1397, 0, none⟩) 1 4 (List.flatMap fPair ([(xp1386.1, xp1386.2.1, xp1386.2.2.1, xp1386.2.2.2.1, ())] : List (RPair))) 35] En1411 Hv1409 fun ac1412 wo1413 En1414 Hv1415 => ?_
        refine ⟨q_y, ?_⟩
        exact h_e ⟨p1385, xp1386, ao1402, cp1403, En1414.sub (by kernel_rfl), Hv1415.pick [0, 1, 2, 3] (by kernel_rfl) (by decide), hp1387, hl1388, hq1389⟩
       rintro ac1416 wo1417 ⟨p1346, xp1347, ao1363, cp1364, En1418, Hv1419, hp1348, hl1349, hq1350⟩
       refine block_normal ?_
       refine then_normal ?_
       refine ⟨_, ⟨f2, prB false ah s (q + 1), p1346, ao1363, cp1364, (ah ++ ([(xp1347.1, xp1347.2.1, xp1347.2.2.1, xp1347.2.2.2.1, ())] : List (RPair))), rfl, En1418.sub (by kernel_rfl), Hv1419.pick [0, 1, 2, 3] (by kernel_rfl) (by decide), hp1348, (fun h => by obtain ⟨z, hz⟩ := prB_of h; have h5 := pr_gt hz; have h6 := (hq1350 z rfl hz).2; omega), (fun h => ps_y (x := xp1347) hgo2 (by omega) hbs h hq1350), (fun h => ps_n hgo2 (by omega) hbs h), (fun h => by obtain ⟨z, hz⟩ := prB_of h; have h5 := pr_gt hz; simp only [List.length_append, List.length_cons, List.length_nil]; omega), (by simp only [List.length_append, List.length_cons, List.length_nil]; omega), (mem_snoc hok hl1349)⟩, ?_⟩
       exact mu_lt _ _
      | true =>
       have Hv1420 : Ev w [] wo1204 [.box bk21 [.string (bstr s), ni p1200, .bool true] 73, .box bk55 [.int .u64 ((UInt64.toNat (numV false (List.drop (0 + 2) s)) : Nat) : Int), .string (bstr (wdV true (List.drop p1150 s))), .slice a2 (List.length ah) c2] 25, .vec a2 c2 4 (List.flatMap fPair ah) 35, .box bk1 [.int .u64 0, .string (bstr []), .slice none 0 0] 25] := by have h := Hv1209; rw [hbs] at h; exact h
       refine r_c (fun ac wo => ∃ (p1556 : _) (xp1557 : _) (ao1573 : Option Addr) (cp1574 : Nat), Env ac 59 [(0, .string (bstr s)), (2, pt bk1), (3, .int .i64 0), (4, .int .i64 0), (5, pt bk21), (6, pt bk55)] ∧ Ev w [] wo [.box bk21 [.string (bstr s), ni p1556, .bool (prB true ah s p1200)] 73, .box bk55 [.int .u64 ((UInt64.toNat (numV false (List.drop (0 + 2) s)) : Nat) : Int), .string (bstr (wdV true (List.drop p1150 s))), .slice ao1573 (List.length (ah ++ ([(xp1557.1, xp1557.2.1, xp1557.2.2.1, xp1557.2.2.2.1, ())] : List (RPair)))) cp1574] 25, .vec ao1573 cp1574 4 (List.flatMap fPair (ah ++ ([(xp1557.1, xp1557.2.1, xp1557.2.2.1, xp1557.2.2.2.1, ())] : List (RPair)))) 35, .box bk1 [.int .u64 0, .string (bstr []), .slice none 0 0] 25] ∧ (p1556 ≤ List.length s) ∧ (List.length xp1557.1 ≤ 1024 ∧ List.length xp1557.2.2.2.1 ≤ 1024) ∧ (∀ z, true = false → rdPr ah s p1200 = some z → xp1557 = z.1 ∧ p1556 = z.2)) ?_ ?_
       ·
        refine h_s (fun wv => Ev w [] wv [.box bk55 [.int .u64 ((UInt64.toNat (numV false (List.drop (0 + 2) s)) : Nat) : Int), .string (bstr (wdV true (List.drop p1150 s))), .slice a2 (List.length ah) c2] 25]) [9] 10 ?_
        have wo1421 := Hv1420.trans (Ev.drew Hv1420.heap)
        refine q_s [0] [] 9 En1208 (wo1421.pick [1] (by kernel_rfl) (by decide)) fun ac1587 En1588 => ?_
        refine q_l 0 1 En1588 (wo1421.pick [1] (by kernel_rfl) (by decide)) fun ac1589 En1590 => ?_
        refine q_s [2,3] [] 6 En1590 (wo1421.pick [1] (by kernel_rfl) (by decide)) fun ac1591 En1592 => ?_
        refine q_l 0 4 En1592 (wo1421.pick [1] (by kernel_rfl) (by decide)) fun ac1593 En1594 => ?_
        refine q_t 5 ?_
        refine c_l [0] (M := [.box bk21 [.string (bstr s), ni p1200, .bool true] 73]) En1594 wo1421 (fun hM1600 => pair_go _ bk21 s p1200 true hs (by omega) a2 c2 ah (wo1421.heap.innS (k := 2) (f := fPair) (sz := 4) (by_ := 48) rfl (fun _ => rfl) (by decide) [0] (by kernel_rfl) rfl (by omega) (okA_in hok)) ((ge.ev wo1421).pick [0] (by kernel_rfl)) hM1600) ?_
        rintro _ wo1601 ⟨p1595, xp1596, rfl, he1602, hp1597, hl1598, hq1599⟩
        refine ⟨_, _, [.box bk21 [.string (bstr s), ni p1595, .bool (prB true ah s p1200)] 73, .box bk55 [.int .u64 ((UInt64.toNat (numV false (List.drop (0 + 2) s)) : Nat) : Int), .string (bstr (wdV true (List.drop p1150 s))), .slice a2 (List.length ah) c2] 25, .vec a2 c2 4 (List.flatMap fPair ah) 35, .box bk1 [.int .u64 0, .string (bstr []), .slice none 0 0] 25], rfl, he1602, by kernel_rfl, fun ac1604 En1605 Hv1606 => ?_⟩
        refine ⟨fun _ => Hv1606.pick [1] (by kernel_rfl) (by decide), ?_⟩
        refine q_t 6 ?_
        refine op_lit (d := some 46) (t := 23) (T := 35) (m := 1) (parts := #[(0, .agg #[.string (bstr xp1596.1), .bool xp1596.2.1, .int .u64 ((UInt64.toNat xp1596.2.2.1 : Nat) : Int), .string (bstr xp1596.2.2.2.1)])]) (xs := List.flatMap fPair ([(xp1596.1, xp1596.2.1, xp1596.2.2.1, xp1596.2.2.2.1, ())] : List (RPair))) (sz := 4) En1605 (by kernel_rfl) (by kernel_rfl) rfl (by decide) Hv1606 ?_
        intro ac1608 wo1609 bk1607 En1610 Hv1611
        refine ⟨fun _ => Hv1611.pick [1] (by kernel_rfl) (by decide), ?_⟩
        refine q_t 7 ?_
        refine op_append (d := some 47) (t := 23) (tx := 23) (ty := 23) (k := 2) (p := List.length ah) (m := 1) (x := .slice (some ⟨bk1607, 0, none⟩) 1 1) (bytes := 48) En1610 (by kernel_rfl) Hv1611 rfl (sv_len (f := fPair) (sz := 4) (fun _ => rfl) _) (Reads.src (size := 4) (tx := 23) (e' := 35) (by kernel_rfl) (Hv1611.heap.reads (k := 4) rfl) rfl (fun e => by cases e) (flat_one (f := fPair) (fun _ => one_all rfl) _)) (by kernel_rfl) (z := .agg #[.string (bstr []), .bool false, .int .u64 0, .string (bstr [])]) (by kernel_rfl) rfl (by decide) (by omega) (by unfold maxLen; omega) ?_
        intro ac1616 wo1617 ao1612 cp1613 En1618 Hv1619 hnz _
        clear hnz
        rw [← List.flatMap_append] at Hv1619
        have ehz1614 : (List.length ah) + 1 = List.length (ah ++ ([(xp1596.1, xp1596.2.1, xp1596.2.2.1, xp1596.2.2.2.1, ())] : List (RPair))) := (by first | (simp; done) | (simp; omega) | omega)
        rw [ehz1614] at En1618
        refine ⟨fun _ => Hv1619.pick [1] (by kernel_rfl) (by decide), ?_⟩
        refine q_s [8] [] 1 En1618 (Hv1619.pick [1] (by kernel_rfl) (by decide)) fun ac1620 En1621 => ?_
        refine q_t 9 ?_
        refine m_s 1 [.box bk21 [.string (bstr s), ni p1595, .bool (prB true ah s p1200)] 73, .box bk55 [.int .u64 ((UInt64.toNat (numV false (List.drop (0 + 2) s)) : Nat) : Int), .string (bstr (wdV true (List.drop p1150 s))), .slice ao1612 (List.length (ah ++ ([(xp1596.1, xp1596.2.1, xp1596.2.2.1, xp1596.2.2.2.1, ())] : List (RPair)))) cp1613] 25, .vec ao1612 cp1613 4 (List.flatMap fPair (ah ++ ([(xp1596.1, xp1596.2.1, xp1596.2.2.1, xp1596.2.2.2.1, ())] : List (RPair)))) 35, .box bk1 [.int .u64 0, .string (bstr []), .slice none 0 0] 25, .vec (some ⟨bk1607, 0, none⟩) 1 4 (List.flatMap fPair ([(xp1596.1, xp1596.2.1, xp1596.2.2.1, xp1596.2.2.2.1, ())] : List (RPair))) 35] En1621 Hv1619 fun ac1622 wo1623 En1624 Hv1625 => ?_
        refine ⟨q_y, ?_⟩
        exact h_e ⟨p1595, xp1596, ao1612, cp1613, En1624.sub (by kernel_rfl), Hv1625.pick [0, 1, 2, 3] (by kernel_rfl) (by decide), hp1597, hl1598, hq1599⟩
       rintro ac1626 wo1627 ⟨p1556, xp1557, ao1573, cp1574, En1628, Hv1629, hp1558, hl1559, hq1560⟩
       refine block_normal ?_
       refine then_normal ?_
       refine ⟨_, ⟨f2, prB true ah s p1200, p1556, ao1573, cp1574, (ah ++ ([(xp1557.1, xp1557.2.1, xp1557.2.2.1, xp1557.2.2.2.1, ())] : List (RPair))), rfl, En1628.sub (by kernel_rfl), Hv1629.pick [0, 1, 2, 3] (by kernel_rfl) (by decide), hp1558, (fun h => by cases h), (fun h => by cases h), (fun _ => ps_s hgo2 (by omega) hbs), (fun h => by cases h), (by simp only [List.length_append, List.length_cons, List.length_nil]; omega), (mem_snoc hok hl1559)⟩, ?_⟩
       exact mu_lt _ _
     ·
      refine wp_exit ?_
      refine then_exit ?_
      refine then_exit ?_
      refine block_exit ?_
      refine then_normal ?_
      refine wp_seq ?_
      refine wp_seq ?_
      refine region_from ?_
      refine d_k [0,2,3,4,5,6,51] [] 3 En1196 fun ac1630 En1631 => ?_
      refine f_o ?_
      refine m_l 0 En1631 Hv1185 fun ac1632 En1633 => ?_
      refine f_e ?_
      refine then_normal ?_
      refine c_f En1633 ?_
      refine wp_skip ?_
      refine then_normal ?_
      refine wp_seq ?_
      refine region_from ?_
      refine f_o ?_
      refine m_a 1 0 3 [.int .u64 ((UInt64.toNat (numV false (List.drop (0 + 2) s)) : Nat) : Int), .string (bstr (wdV true (List.drop p1150 s))), .slice a2 (List.length ah) c2] En1633 Hv1185 rfl rfl rfl fun ac1634 En1635 => ?_
      refine f_o ?_
      refine m_g 3 0 3 [.int .u64 ((UInt64.toNat (numV false (List.drop (0 + 2) s)) : Nat) : Int), .string (bstr (wdV true (List.drop p1150 s))), .slice a2 (List.length ah) c2] [.int .u64 ((UInt64.toNat (numV false (List.drop (0 + 2) s)) : Nat) : Int), .string (bstr (wdV true (List.drop p1150 s))), .slice a2 (List.length ah) c2] [.box bk21 [.string (bstr s), ni q, .bool false] 73, .box bk55 [.int .u64 ((UInt64.toNat (numV false (List.drop (0 + 2) s)) : Nat) : Int), .string (bstr (wdV true (List.drop p1150 s))), .slice a2 (List.length ah) c2] 25, .vec a2 c2 4 (List.flatMap fPair ah) 35, .box bk1 [.int .u64 ((UInt64.toNat (numV false (List.drop (0 + 2) s)) : Nat) : Int), .string (bstr (wdV true (List.drop p1150 s))), .slice a2 (List.length ah) c2] 25] En1635 Hv1185 rfl rfl (by simp) (one_all (by kernel_rfl)) rfl rfl fun ac1636 wo1637 En1638 Hv1639 => ?_
      refine d_e [0,2,3,4,5,6] [] En1638 fun ac1640 En1641 => ?_
      refine then_normal ?_
      refine wp_ret ?_
      refine d_cell_tt (v := .agg #[.int .u64 ((UInt64.toNat (numV false (List.drop (0 + 2) s)) : Nat) : Int), .string (bstr (wdV true (List.drop p1150 s))), .slice a2 (List.length ah) c2]) (x := .int .i64 0) (y := .int .i64 0) (t := 2) (T := 25) (ad := ⟨bk1, 0, none⟩) (u := 3) (s := 4) En1641 (by kernel_rfl) (by kernel_rfl) (Ev.cellAgg (t := 25) (k := 3) (off := 0) (m := 3) (xs := [.int .u64 ((UInt64.toNat (numV false (List.drop (0 + 2) s)) : Nat) : Int), .string (bstr (wdV true (List.drop p1150 s))), .slice a2 (List.length ah) c2]) Hv1639 rfl rfl rfl (by kernel_rfl) (by kernel_rfl)) (by kernel_rfl) (by kernel_rfl) ?_
      exact .inr ⟨(numV false (List.drop (0 + 2) s)), (wdV true (List.drop p1150 s)), ah, a2, c2, ps_end hgo2 (by omega), rfl, Hv1639.pick [2] (by kernel_rfl) (by decide), hok, hl1, wdV_len _ _⟩
    | true =>
     refine region_from ?_
     refine d_k [0,2,3,4,5,6,26] [] 3 En1184 fun ac1642 En1643 => ?_
     refine f_o ?_
     refine m_l 0 En1643 Hv1185 fun ac1644 En1645 => ?_
     refine d_e [0,2,3,4,5,6,37] [] En1645 fun ac1646 En1647 => ?_
     refine then_normal ?_
     refine c_f En1647 ?_
     refine wp_exit ?_
     refine then_exit ?_
     refine then_exit ?_
     refine block_exit ?_
     refine then_normal ?_
     refine wp_seq ?_
     refine wp_seq ?_
     refine region_from ?_
     refine d_k [0,2,3,4,5,6,51] [] 3 En1647 fun ac1648 En1649 => ?_
     refine f_o ?_
     refine m_l 0 En1649 Hv1185 fun ac1650 En1651 => ?_
     refine f_e ?_
     refine then_normal ?_
     refine c_t En1651 ?_
     refine wp_seq ?_
     refine r_c (fun ac wo => Env ac 59 [(0, .string (bstr s)), (2, pt bk1), (3, ni q), (4, .int .i64 33), (5, pt bk21), (6, pt bk55)] ∧ Ev w [] wo [.box bk21 [.string (bstr s), ni q, .bool true] 73, .box bk55 [.int .u64 ((UInt64.toNat (numV false (List.drop (0 + 2) s)) : Nat) : Int), .string (bstr (wdV true (List.drop p1150 s))), .slice a2 (List.length ah) c2] 25, .vec a2 c2 4 (List.flatMap fPair ah) 35, .box bk1 [.int .u64 0, .string (bstr []), .slice none 0 0] 25]) ?_ ?_
     ·
      refine h_s (fun wv => Ev w [] wv [.box bk21 [.string (bstr s), ni q, .bool true] 73]) [] 8 ?_
      have wo1652 := Hv1185.trans (Ev.drew Hv1185.heap)
      refine q_s [0,1,2,3] [] 4 En1651 (wo1652.pick [0] (by kernel_rfl) (by decide)) fun ac1681 En1682 => ?_
      refine q_l 0 4 En1682 (wo1652.pick [0] (by kernel_rfl) (by decide)) fun ac1683 En1684 => ?_
      refine q_t 5 ?_
      refine m_g 3 0 3 [.int .u64 0, .string (bstr []), .slice none 0 0] [.int .u64 0, .string (bstr []), .slice none 0 0] [.box bk21 [.string (bstr s), ni q, .bool true] 73, .box bk55 [.int .u64 ((UInt64.toNat (numV false (List.drop (0 + 2) s)) : Nat) : Int), .string (bstr (wdV true (List.drop p1150 s))), .slice a2 (List.length ah) c2] 25, .vec a2 c2 4 (List.flatMap fPair ah) 35, .box bk1 [.int .u64 0, .string (bstr []), .slice none 0 0] 25] En1684 wo1652 rfl rfl (by simp) (one_all (by kernel_rfl)) rfl rfl fun ac1685 wo1686 En1687 Hv1688 => ?_
      refine ⟨fun _ => Hv1688.pick [0] (by kernel_rfl) (by decide), ?_⟩
      refine q_s [6,7] [] 0 En1687 (Hv1688.pick [0] (by kernel_rfl) (by decide)) fun ac1689 En1690 => ?_
      exact h_e ⟨En1690.sub (by kernel_rfl), Hv1688.pick [0, 1, 2, 3] (by kernel_rfl) (by decide)⟩
     rintro ac1691 wo1692 ⟨En1693, Hv1694⟩
     refine then_normal ?_
     refine wp_ret ?_
     refine then_ret ?_
     refine d_cell_tt (v := .agg #[.int .u64 0, .string (bstr []), .slice none 0 0]) (x := ni q) (y := .int .i64 33) (t := 2) (T := 25) (ad := ⟨bk1, 0, none⟩) (u := 3) (s := 4) En1693 (by kernel_rfl) (by kernel_rfl) (Ev.cellAgg (t := 25) (k := 3) (off := 0) (m := 3) (xs := [.int .u64 0, .string (bstr []), .slice none 0 0]) Hv1694 rfl rfl rfl (by kernel_rfl) (by kernel_rfl)) (by kernel_rfl) (by kernel_rfl) ?_
     have hno : rdL s = none := by first | exact hbd rfl | exact l_0 (by omega)
     exact .inl ⟨hno, q, 33, by decide, (by omega), rfl, Hv1694.pick [] (by kernel_rfl) (by decide)⟩
  | true =>
   have hr0 : rdL s = none := l_1 hs hb1
   have Hv1695 : Ev w [] wo34 [.box bk21 [.string (bstr s), ni p30, .bool true] 73, .box bk1 [.int .u64 0, .string (bstr []), .slice none 0 0] 25] := by have h := Hv39; rw [hb1] at h; exact h
   refine region_from ?_
   refine d_k [0,2,3,4,5,16] [] 1 En38 fun ac1696 En1697 => ?_
   refine f_o ?_
   refine c_l [0] (M := [.box bk21 [.string (bstr s), ni p30, .bool true] 73]) En1697 Hv1695 (fun hM1701 => number_go _ bk21 s p30 true hs (by omega) ((ge.ev Hv1695).pick [0] (by kernel_rfl)) hM1701) ?_
   rintro _ wo1702 ⟨p1698, rfl, he1703, hp1699, hq1700⟩
   refine ⟨_, _, [.box bk21 [.string (bstr s), ni p1698, .bool (nmB true (List.drop p30 s))] 73, .box bk1 [.int .u64 0, .string (bstr []), .slice none 0 0] 25], rfl, he1703, by kernel_rfl, fun ac1705 En1706 Hv1707 => ?_⟩
   refine d_k [0,2,3,4,5,18] [] 3 En1706 fun ac1708 En1709 => ?_
   refine f_o ?_
   refine m_z 25 [.int .u64 0, .string (bstr []), .slice none 0 0] En1709 Hv1707 fun ac1711 wo1712 bk1710 En1713 Hv1714 => ?_
   refine f_o ?_
   refine m_g 2 0 3 [.int .u64 ((UInt64.toNat (numV true (List.drop p30 s)) : Nat) : Int), .string (bstr []), .slice none 0 0] [.int .u64 ((UInt64.toNat (numV true (List.drop p30 s)) : Nat) : Int), .string (bstr []), .slice none 0 0] [.box bk21 [.string (bstr s), ni p1698, .bool (nmB true (List.drop p30 s))] 73, .box bk1 [.int .u64 0, .string (bstr []), .slice none 0 0] 25, .box bk1710 [.int .u64 ((UInt64.toNat (numV true (List.drop p30 s)) : Nat) : Int), .string (bstr []), .slice none 0 0] 25] En1713 Hv1714 rfl rfl (by simp) (one_all (by kernel_rfl)) rfl rfl fun ac1715 wo1716 En1717 Hv1718 => ?_
   refine f_e ?_
   refine then_normal ?_
   refine wp_seq ?_
   have Hv1719 : Ev w [] wo1716 [.box bk21 [.string (bstr s), ni p1698, .bool true] 73, .box bk1 [.int .u64 0, .string (bstr []), .slice none 0 0] 25, .box bk1710 [.int .u64 ((UInt64.toNat (numV true (List.drop p30 s)) : Nat) : Int), .string (bstr []), .slice none 0 0] 25] := by have h := Hv1718; skip; exact h
   refine region_from ?_
   refine d_k [0,2,3,4,5,6,19] [] 1 En1717 fun ac1720 En1721 => ?_
   refine f_o ?_
   refine c_l [0] (M := [.box bk21 [.string (bstr s), ni p1698, .bool true] 73]) En1721 Hv1719 (fun hM1725 => take_go _ bk21 s [32, 101, 118, 61] p1698 true hs (by omega) hM1725) ?_
   rintro _ wo1726 ⟨p1722, rfl, he1727, hp1723, hq1724⟩
   refine ⟨_, _, [.box bk21 [.string (bstr s), ni p1722, .bool (tkB true [32, 101, 118, 61] (List.drop p1698 s))] 73, .box bk1 [.int .u64 0, .string (bstr []), .slice none 0 0] 25, .box bk1710 [.int .u64 ((UInt64.toNat (numV true (List.drop p30 s)) : Nat) : Int), .string (bstr []), .slice none 0 0] 25], rfl, he1727, by kernel_rfl, fun ac1729 En1730 Hv1731 => ?_⟩
   refine f_e ?_
   refine then_normal ?_
   refine wp_seq ?_
   have Hv1732 : Ev w [] wo1726 [.box bk21 [.string (bstr s), ni p1722, .bool true] 73, .box bk1 [.int .u64 0, .string (bstr []), .slice none 0 0] 25, .box bk1710 [.int .u64 ((UInt64.toNat (numV true (List.drop p30 s)) : Nat) : Int), .string (bstr []), .slice none 0 0] 25] := by have h := Hv1731; skip; exact h
   refine region_from ?_
   refine d_k [0,2,3,4,5,6,21] [] 1 En1730 fun ac1733 En1734 => ?_
   refine f_o ?_
   refine c_l [0] (M := [.box bk21 [.string (bstr s), ni p1722, .bool true] 73]) En1734 Hv1732 (fun hM1738 => word_go2 _ bk21 s p1722 true hs (by omega) hM1738) ?_
   rintro _ wo1739 ⟨p1735, rfl, he1740, hp1736, hq1737⟩
   refine ⟨_, _, [.box bk21 [.string (bstr s), ni p1735, .bool (wdB true (List.drop p1722 s))] 73, .box bk1 [.int .u64 0, .string (bstr []), .slice none 0 0] 25, .box bk1710 [.int .u64 ((UInt64.toNat (numV true (List.drop p30 s)) : Nat) : Int), .string (bstr []), .slice none 0 0] 25], rfl, he1740, by kernel_rfl, fun ac1742 En1743 Hv1744 => ?_⟩
   refine d_k [0,2,3,4,5,6,22,23] [] 3 En1743 fun ac1745 En1746 => ?_
   refine f_o ?_
   refine m_s 2 [.box bk21 [.string (bstr s), ni p1735, .bool (wdB true (List.drop p1722 s))] 73, .box bk1 [.int .u64 0, .string (bstr []), .slice none 0 0] 25, .box bk1710 [.int .u64 ((UInt64.toNat (numV true (List.drop p30 s)) : Nat) : Int), .string (bstr (wdV true (List.drop p1722 s))), .slice none 0 0] 25] En1746 Hv1744 fun ac1747 wo1748 En1749 Hv1750 => ?_
   refine f_e ?_
   refine then_normal ?_
   refine wp_seq ?_
   refine wp_block ?_
   have Hv1751 : Ev w [] wo1748 [.box bk21 [.string (bstr s), ni p1735, .bool (wdB true (List.drop p1722 s))] 73, .box bk1 [.int .u64 0, .string (bstr []), .slice none 0 0] 25, .box bk1710 [.int .u64 ((UInt64.toNat (numV true (List.drop p30 s)) : Nat) : Int), .string (bstr (wdV true (List.drop p1722 s))), .slice none 0 0] 25, .vec none 0 4 (List.flatMap fPair []) 35] := Ev.nil (sz := 4) (T := 35) Hv1750
   refine loop_m (fun ms1752 ac wo => ∃ (f : Nat) (b : Bool) (q : Nat) (a2 : Option Addr) (c2 : Nat) (ah : List RPair), ms1752 = (bif b then 0 else f : Nat) ∧ Env ac 59 [(0, .string (bstr s)), (2, pt bk1), (3, .int .i64 0), (4, .int .i64 0), (5, pt bk21), (6, pt bk1710)] ∧ Ev w [] wo [.box bk21 [.string (bstr s), ni q, .bool b] 73, .box bk1710 [.int .u64 ((UInt64.toNat (numV true (List.drop p30 s)) : Nat) : Int), .string (bstr (wdV true (List.drop p1722 s))), .slice a2 (List.length ah) c2] 25, .vec a2 c2 4 (List.flatMap fPair ah) 35, .box bk1 [.int .u64 0, .string (bstr []), .slice none 0 0] 25] ∧ (q ≤ List.length s) ∧ (b = false → List.length s < q + f) ∧ (b = false → rdL s = Option.map (fun ps => (numV true (List.drop p30 s), wdV true (List.drop p1722 s), ps)) (rdPs f ah s q)) ∧ (b = true → rdL s = none) ∧ (b = false → List.length ah ≤ 16) ∧ (List.length ah ≤ 17) ∧ (okA ah)) ⟨_, List.length s + 1, (wdB true (List.drop p1722 s)), p1735, none, 0, [], rfl, En1749.sub (by kernel_rfl), Hv1751.pick [0, 2, 3, 1] (by kernel_rfl) (by decide), (by omega), (fun _ => by omega), (fun h => by cases h), (fun _ => hr0), (fun _ => by simp), (by simp), (fun _ h => by cases h)⟩ ?_
   rintro mm1758 ac1754 wo1755 ⟨f, b, q, a2, c2, ah, rfl, En1756, Hv1757, hq, hf, hgo, hbd, hl16, hl17, hok⟩
   refine wp_seq ?_
   refine wp_seq ?_
   cases b with
   | false =>
    have hgo1 := hgo rfl
    have hf1 := hf rfl
    have hl1 := hl16 rfl
    obtain ⟨f2, rfl⟩ : ∃ f2, f = f2 + 1 := ⟨f - 1, by omega⟩
    have hgo2 := hgo rfl
    refine region_from ?_
    refine d_k [0,2,3,4,5,6,26] [] 3 En1756 fun ac1759 En1760 => ?_
    refine f_o ?_
    refine m_l 0 En1760 Hv1757 fun ac1761 En1762 => ?_
    refine d_k [0,2,3,4,5,6,29,32] [] 9 En1762 fun ac1763 En1764 => ?_
    refine f_o ?_
    refine m_l 0 En1764 Hv1757 fun ac1765 En1766 => ?_
    refine d_e [0,2,3,4,5,6,37] [] En1766 fun ac1767 En1768 => ?_
    refine then_normal ?_
    refine c_d (((q : Nat) : Int) < ((ByteArray.size (bstr s) : Nat) : Int)) En1768 (fun hc1769 => ?_) (fun hc1769 => ?_)
    ·
     refine wp_skip ?_
     refine then_normal ?_
     refine wp_block ?_
     refine wp_seq ?_
     refine region_from ?_
     refine d_k [0,2,3,4,5,6,38] [] 1 En1768 fun ac1770 En1771 => ?_
     refine f_o ?_
     refine c_l [0] (M := [.box bk21 [.string (bstr s), ni q, .bool false] 73]) En1771 Hv1757 (fun hM1775 => take_go _ bk21 s [32] q false hs (by omega) hM1775) ?_
     rintro _ wo1776 ⟨p1772, rfl, he1777, hp1773, hq1774⟩
     refine ⟨_, _, [.box bk21 [.string (bstr s), ni p1772, .bool (tkB false [32] (List.drop q s))] 73, .box bk1710 [.int .u64 ((UInt64.toNat (numV true (List.drop p30 s)) : Nat) : Int), .string (bstr (wdV true (List.drop p1722 s))), .slice a2 (List.length ah) c2] 25, .vec a2 c2 4 (List.flatMap fPair ah) 35, .box bk1 [.int .u64 0, .string (bstr []), .slice none 0 0] 25], rfl, he1777, by kernel_rfl, fun ac1779 En1780 Hv1781 => ?_⟩
     refine f_e ?_
     refine then_normal ?_
     cases hbs : tkB false [32] (List.drop q s) with
     | false =>
      have hpe_ : p1772 = q + 1 := hq1774 hbs
      subst hpe_
      have Hv1782 : Ev w [] wo1776 [.box bk21 [.string (bstr s), .int .i64 ((q + 1 : Nat) : Int), .bool false] 73, .box bk1710 [.int .u64 ((UInt64.toNat (numV true (List.drop p30 s)) : Nat) : Int), .string (bstr (wdV true (List.drop p1722 s))), .slice a2 (List.length ah) c2] 25, .vec a2 c2 4 (List.flatMap fPair ah) 35, .box bk1 [.int .u64 0, .string (bstr []), .slice none 0 0] 25] := by have h := Hv1781; rw [hbs] at h; exact h
      refine r_c (fun ac wo => ∃ (p1918 : _) (xp1919 : _) (ao1935 : Option Addr) (cp1936 : Nat), Env ac 59 [(0, .string (bstr s)), (2, pt bk1), (3, .int .i64 0), (4, .int .i64 0), (5, pt bk21), (6, pt bk1710)] ∧ Ev w [] wo [.box bk21 [.string (bstr s), ni p1918, .bool (prB false ah s (q + 1))] 73, .box bk1710 [.int .u64 ((UInt64.toNat (numV true (List.drop p30 s)) : Nat) : Int), .string (bstr (wdV true (List.drop p1722 s))), .slice ao1935 (List.length (ah ++ ([(xp1919.1, xp1919.2.1, xp1919.2.2.1, xp1919.2.2.2.1, ())] : List (RPair)))) cp1936] 25, .vec ao1935 cp1936 4 (List.flatMap fPair (ah ++ ([(xp1919.1, xp1919.2.1, xp1919.2.2.1, xp1919.2.2.2.1, ())] : List (RPair)))) 35, .box bk1 [.int .u64 0, .string (bstr []), .slice none 0 0] 25] ∧ (p1918 ≤ List.length s) ∧ (List.length xp1919.1 ≤ 1024 ∧ List.length xp1919.2.2.2.1 ≤ 1024) ∧ (∀ z, false = false → rdPr ah s (q + 1) = some z → xp1919 = z.1 ∧ p1918 = z.2)) ?_ ?_
      ·
       refine h_s (fun wv => Ev w [] wv [.box bk1710 [.int .u64 ((UInt64.toNat (numV true (List.drop p30 s)) : Nat) : Int), .string (bstr (wdV true (List.drop p1722 s))), .slice a2 (List.length ah) c2] 25]) [9] 10 ?_
       have wo1783 := Hv1782.trans (Ev.drew Hv1782.heap)
       refine q_s [0] [] 9 En1780 (wo1783.pick [1] (by kernel_rfl) (by decide)) fun ac1949 En1950 => ?_
       refine q_l 0 1 En1950 (wo1783.pick [1] (by kernel_rfl) (by decide)) fun ac1951 En1952 => ?_
       refine q_s [2,3] [] 6 En1952 (wo1783.pick [1] (by kernel_rfl) (by decide)) fun ac1953 En1954 => ?_
       refine q_l 0 4 En1954 (wo1783.pick [1] (by kernel_rfl) (by decide)) fun ac1955 En1956 => ?_
       refine q_t 5 ?_
       refine c_l [0] (M := [.box bk21 [.string (bstr s), .int .i64 ((q + 1 : Nat) : Int), .bool false] 73]) En1956 wo1783 (fun hM1962 => pair_go _ bk21 s (q + 1) false hs (by omega) a2 c2 ah (wo1783.heap.innS (k := 2) (f := fPair) (sz := 4) (by_ := 48) rfl (fun _ => rfl) (by decide) [0] (by kernel_rfl) rfl (by omega) (okA_in hok)) ((ge.ev wo1783).pick [0] (by kernel_rfl)) hM1962) ?_
       rintro _ wo1963 ⟨p1957, xp1958, rfl, he1964, hp1959, hl1960, hq1961⟩
       refine ⟨_, _, [.box bk21 [.string (bstr s), ni p1957, .bool (prB false ah s (q + 1))] 73, .box bk1710 [.int .u64 ((UInt64.toNat (numV true (List.drop p30 s)) : Nat) : Int), .string (bstr (wdV true (List.drop p1722 s))), .slice a2 (List.length ah) c2] 25, .vec a2 c2 4 (List.flatMap fPair ah) 35, .box bk1 [.int .u64 0, .string (bstr []), .slice none 0 0] 25], rfl, he1964, by kernel_rfl, fun ac1966 En1967 Hv1968 => ?_⟩
       refine ⟨fun _ => Hv1968.pick [1] (by kernel_rfl) (by decide), ?_⟩
       refine q_t 6 ?_
       refine op_lit (d := some 46) (t := 23) (T := 35) (m := 1) (parts := #[(0, .agg #[.string (bstr xp1958.1), .bool xp1958.2.1, .int .u64 ((UInt64.toNat xp1958.2.2.1 : Nat) : Int), .string (bstr xp1958.2.2.2.1)])]) (xs := List.flatMap fPair ([(xp1958.1, xp1958.2.1, xp1958.2.2.1, xp1958.2.2.2.1, ())] : List (RPair))) (sz := 4) En1967 (by kernel_rfl) (by kernel_rfl) rfl (by decide) Hv1968 ?_
       intro ac1970 wo1971 bk1969 En1972 Hv1973
       refine ⟨fun _ => Hv1973.pick [1] (by kernel_rfl) (by decide), ?_⟩
       refine q_t 7 ?_
       refine op_append (d := some 47) (t := 23) (tx := 23) (ty := 23) (k := 2) (p := List.length ah) (m := 1) (x := .slice (some ⟨bk1969, 0, none⟩) 1 1) (bytes := 48) En1972 (by kernel_rfl) Hv1973 rfl (sv_len (f := fPair) (sz := 4) (fun _ => rfl) _) (Reads.src (size := 4) (tx := 23) (e' := 35) (by kernel_rfl) (Hv1973.heap.reads (k := 4) rfl) rfl (fun e => by cases e) (flat_one (f := fPair) (fun _ => one_all rfl) _)) (by kernel_rfl) (z := .agg #[.string (bstr []), .bool false, .int .u64 0, .string (bstr [])]) (by kernel_rfl) rfl (by decide) (by omega) (by unfold maxLen; omega) ?_
       intro ac1978 wo1979 ao1974 cp1975 En1980 Hv1981 hnz _
       clear hnz
       rw [← List.flatMap_append] at Hv1981
       have ehz1976 : (List.length ah) + 1 = List.length (ah ++ ([(xp1958.1, xp1958.2.1, xp1958.2.2.1, xp1958.2.2.2.1, ())] : List (RPair))) := (by first | (simp; done) | (simp; omega) | omega)
       rw [ehz1976] at En1980
       refine ⟨fun _ => Hv1981.pick [1] (by kernel_rfl) (by decide), ?_⟩
       refine q_s [8] [] 1 En1980 (Hv1981.pick [1] (by kernel_rfl) (by decide)) fun ac1982 En1983 => ?_
       refine q_t 9 ?_
       refine m_s 1 [.box bk21 [.string (bstr s), ni p1957, .bool (prB false ah s (q + 1))] 73, .box bk1710 [.int .u64 ((UInt64.toNat (numV true (List.drop p30 s)) : Nat) : Int), .string (bstr (wdV true (List.drop p1722 s))), .slice ao1974 (List.length (ah ++ ([(xp1958.1, xp1958.2.1, xp1958.2.2.1, xp1958.2.2.2.1, ())] : List (RPair)))) cp1975] 25, .vec ao1974 cp1975 4 (List.flatMap fPair (ah ++ ([(xp1958.1, xp1958.2.1, xp1958.2.2.1, xp1958.2.2.2.1, ())] : List (RPair)))) 35, .box bk1 [.int .u64 0, .string (bstr []), .slice none 0 0] 25, .vec (some ⟨bk1969, 0, none⟩) 1 4 (List.flatMap fPair ([(xp1958.1, xp1958.2.1, xp1958.2.2.1, xp1958.2.2.2.1, ())] : List (RPair))) 35] En1983 Hv1981 fun ac1984 wo1985 En1986 Hv1987 => ?_
       refine ⟨q_y, ?_⟩
       exact h_e ⟨p1957, xp1958, ao1974, cp1975, En1986.sub (by kernel_rfl), Hv1987.pick [0, 1, 2, 3] (by kernel_rfl) (by decide), hp1959, hl1960, hq1961⟩
      rintro ac1988 wo1989 ⟨p1918, xp1919, ao1935, cp1936, En1990, Hv1991, hp1920, hl1921, hq1922⟩
      refine block_normal ?_
      refine then_normal ?_
      refine ⟨_, ⟨f2, prB false ah s (q + 1), p1918, ao1935, cp1936, (ah ++ ([(xp1919.1, xp1919.2.1, xp1919.2.2.1, xp1919.2.2.2.1, ())] : List (RPair))), rfl, En1990.sub (by kernel_rfl), Hv1991.pick [0, 1, 2, 3] (by kernel_rfl) (by decide), hp1920, (fun h => by obtain ⟨z, hz⟩ := prB_of h; have h5 := pr_gt hz; have h6 := (hq1922 z rfl hz).2; omega), (fun h => ps_y (x := xp1919) hgo2 (by omega) hbs h hq1922), (fun h => ps_n hgo2 (by omega) hbs h), (fun h => by obtain ⟨z, hz⟩ := prB_of h; have h5 := pr_gt hz; simp only [List.length_append, List.length_cons, List.length_nil]; omega), (by simp only [List.length_append, List.length_cons, List.length_nil]; omega), (mem_snoc hok hl1921)⟩, ?_⟩
      exact mu_lt _ _
     | true =>
      have Hv1992 : Ev w [] wo1776 [.box bk21 [.string (bstr s), ni p1772, .bool true] 73, .box bk1710 [.int .u64 ((UInt64.toNat (numV true (List.drop p30 s)) : Nat) : Int), .string (bstr (wdV true (List.drop p1722 s))), .slice a2 (List.length ah) c2] 25, .vec a2 c2 4 (List.flatMap fPair ah) 35, .box bk1 [.int .u64 0, .string (bstr []), .slice none 0 0] 25] := by have h := Hv1781; rw [hbs] at h; exact h
      refine r_c (fun ac wo => ∃ (p2128 : _) (xp2129 : _) (ao2145 : Option Addr) (cp2146 : Nat), Env ac 59 [(0, .string (bstr s)), (2, pt bk1), (3, .int .i64 0), (4, .int .i64 0), (5, pt bk21), (6, pt bk1710)] ∧ Ev w [] wo [.box bk21 [.string (bstr s), ni p2128, .bool (prB true ah s p1772)] 73, .box bk1710 [.int .u64 ((UInt64.toNat (numV true (List.drop p30 s)) : Nat) : Int), .string (bstr (wdV true (List.drop p1722 s))), .slice ao2145 (List.length (ah ++ ([(xp2129.1, xp2129.2.1, xp2129.2.2.1, xp2129.2.2.2.1, ())] : List (RPair)))) cp2146] 25, .vec ao2145 cp2146 4 (List.flatMap fPair (ah ++ ([(xp2129.1, xp2129.2.1, xp2129.2.2.1, xp2129.2.2.2.1, ())] : List (RPair)))) 35, .box bk1 [.int .u64 0, .string (bstr []), .slice none 0 0] 25] ∧ (p2128 ≤ List.length s) ∧ (List.length xp2129.1 ≤ 1024 ∧ List.length xp2129.2.2.2.1 ≤ 1024) ∧ (∀ z, true = false → rdPr ah s p1772 = some z → xp2129 = z.1 ∧ p2128 = z.2)) ?_ ?_
      ·
       refine h_s (fun wv => Ev w [] wv [.box bk1710 [.int .u64 ((UInt64.toNat (numV true (List.drop p30 s)) : Nat) : Int), .string (bstr (wdV true (List.drop p1722 s))), .slice a2 (List.length ah) c2] 25]) [9] 10 ?_
       have wo1993 := Hv1992.trans (Ev.drew Hv1992.heap)
       refine q_s [0] [] 9 En1780 (wo1993.pick [1] (by kernel_rfl) (by decide)) fun ac2159 En2160 => ?_
       refine q_l 0 1 En2160 (wo1993.pick [1] (by kernel_rfl) (by decide)) fun ac2161 En2162 => ?_
       refine q_s [2,3] [] 6 En2162 (wo1993.pick [1] (by kernel_rfl) (by decide)) fun ac2163 En2164 => ?_
       refine q_l 0 4 En2164 (wo1993.pick [1] (by kernel_rfl) (by decide)) fun ac2165 En2166 => ?_
       refine q_t 5 ?_
       refine c_l [0] (M := [.box bk21 [.string (bstr s), ni p1772, .bool true] 73]) En2166 wo1993 (fun hM2172 => pair_go _ bk21 s p1772 true hs (by omega) a2 c2 ah (wo1993.heap.innS (k := 2) (f := fPair) (sz := 4) (by_ := 48) rfl (fun _ => rfl) (by decide) [0] (by kernel_rfl) rfl (by omega) (okA_in hok)) ((ge.ev wo1993).pick [0] (by kernel_rfl)) hM2172) ?_
       rintro _ wo2173 ⟨p2167, xp2168, rfl, he2174, hp2169, hl2170, hq2171⟩
       refine ⟨_, _, [.box bk21 [.string (bstr s), ni p2167, .bool (prB true ah s p1772)] 73, .box bk1710 [.int .u64 ((UInt64.toNat (numV true (List.drop p30 s)) : Nat) : Int), .string (bstr (wdV true (List.drop p1722 s))), .slice a2 (List.length ah) c2] 25, .vec a2 c2 4 (List.flatMap fPair ah) 35, .box bk1 [.int .u64 0, .string (bstr []), .slice none 0 0] 25], rfl, he2174, by kernel_rfl, fun ac2176 En2177 Hv2178 => ?_⟩
       refine ⟨fun _ => Hv2178.pick [1] (by kernel_rfl) (by decide), ?_⟩
       refine q_t 6 ?_
       refine op_lit (d := some 46) (t := 23) (T := 35) (m := 1) (parts := #[(0, .agg #[.string (bstr xp2168.1), .bool xp2168.2.1, .int .u64 ((UInt64.toNat xp2168.2.2.1 : Nat) : Int), .string (bstr xp2168.2.2.2.1)])]) (xs := List.flatMap fPair ([(xp2168.1, xp2168.2.1, xp2168.2.2.1, xp2168.2.2.2.1, ())] : List (RPair))) (sz := 4) En2177 (by kernel_rfl) (by kernel_rfl) rfl (by decide) Hv2178 ?_
       intro ac2180 wo2181 bk2179 En2182 Hv2183
       refine ⟨fun _ => Hv2183.pick [1] (by kernel_rfl) (by decide), ?_⟩
       refine q_t 7 ?_
       refine op_append (d := some 47) (t := 23) (tx := 23) (ty := 23) (k := 2) (p := List.length ah) (m := 1) (x := .slice (some ⟨bk2179, 0, none⟩) 1 1) (bytes := 48) En2182 (by kernel_rfl) Hv2183 rfl (sv_len (f := fPair) (sz := 4) (fun _ => rfl) _) (Reads.src (size := 4) (tx := 23) (e' := 35) (by kernel_rfl) (Hv2183.heap.reads (k := 4) rfl) rfl (fun e => by cases e) (flat_one (f := fPair) (fun _ => one_all rfl) _)) (by kernel_rfl) (z := .agg #[.string (bstr []), .bool false, .int .u64 0, .string (bstr [])]) (by kernel_rfl) rfl (by decide) (by omega) (by unfold maxLen; omega) ?_
       intro ac2188 wo2189 ao2184 cp2185 En2190 Hv2191 hnz _
       clear hnz
       rw [← List.flatMap_append] at Hv2191
       have ehz2186 : (List.length ah) + 1 = List.length (ah ++ ([(xp2168.1, xp2168.2.1, xp2168.2.2.1, xp2168.2.2.2.1, ())] : List (RPair))) := (by first | (simp; done) | (simp; omega) | omega)
       rw [ehz2186] at En2190
       refine ⟨fun _ => Hv2191.pick [1] (by kernel_rfl) (by decide), ?_⟩
       refine q_s [8] [] 1 En2190 (Hv2191.pick [1] (by kernel_rfl) (by decide)) fun ac2192 En2193 => ?_
       refine q_t 9 ?_
       refine m_s 1 [.box bk21 [.string (bstr s), ni p2167, .bool (prB true ah s p1772)] 73, .box bk1710 [.int .u64 ((UInt64.toNat (numV true (List.drop p30 s)) : Nat) : Int), .string (bstr (wdV true (List.drop p1722 s))), .slice ao2184 (List.length (ah ++ ([(xp2168.1, xp2168.2.1, xp2168.2.2.1, xp2168.2.2.2.1, ())] : List (RPair)))) cp2185] 25, .vec ao2184 cp2185 4 (List.flatMap fPair (ah ++ ([(xp2168.1, xp2168.2.1, xp2168.2.2.1, xp2168.2.2.2.1, ())] : List (RPair)))) 35, .box bk1 [.int .u64 0, .string (bstr []), .slice none 0 0] 25, .vec (some ⟨bk2179, 0, none⟩) 1 4 (List.flatMap fPair ([(xp2168.1, xp2168.2.1, xp2168.2.2.1, xp2168.2.2.2.1, ())] : List (RPair))) 35] En2193 Hv2191 fun ac2194 wo2195 En2196 Hv2197 => ?_
       refine ⟨q_y, ?_⟩
       exact h_e ⟨p2167, xp2168, ao2184, cp2185, En2196.sub (by kernel_rfl), Hv2197.pick [0, 1, 2, 3] (by kernel_rfl) (by decide), hp2169, hl2170, hq2171⟩
      rintro ac2198 wo2199 ⟨p2128, xp2129, ao2145, cp2146, En2200, Hv2201, hp2130, hl2131, hq2132⟩
      refine block_normal ?_
      refine then_normal ?_
      refine ⟨_, ⟨f2, prB true ah s p1772, p2128, ao2145, cp2146, (ah ++ ([(xp2129.1, xp2129.2.1, xp2129.2.2.1, xp2129.2.2.2.1, ())] : List (RPair))), rfl, En2200.sub (by kernel_rfl), Hv2201.pick [0, 1, 2, 3] (by kernel_rfl) (by decide), hp2130, (fun h => by cases h), (fun h => by cases h), (fun _ => ps_s hgo2 (by omega) hbs), (fun h => by cases h), (by simp only [List.length_append, List.length_cons, List.length_nil]; omega), (mem_snoc hok hl2131)⟩, ?_⟩
      exact mu_lt _ _
    ·
     refine wp_exit ?_
     refine then_exit ?_
     refine then_exit ?_
     refine block_exit ?_
     refine then_normal ?_
     refine wp_seq ?_
     refine wp_seq ?_
     refine region_from ?_
     refine d_k [0,2,3,4,5,6,51] [] 3 En1768 fun ac2202 En2203 => ?_
     refine f_o ?_
     refine m_l 0 En2203 Hv1757 fun ac2204 En2205 => ?_
     refine f_e ?_
     refine then_normal ?_
     refine c_f En2205 ?_
     refine wp_skip ?_
     refine then_normal ?_
     refine wp_seq ?_
     refine region_from ?_
     refine f_o ?_
     refine m_a 1 0 3 [.int .u64 ((UInt64.toNat (numV true (List.drop p30 s)) : Nat) : Int), .string (bstr (wdV true (List.drop p1722 s))), .slice a2 (List.length ah) c2] En2205 Hv1757 rfl rfl rfl fun ac2206 En2207 => ?_
     refine f_o ?_
     refine m_g 3 0 3 [.int .u64 ((UInt64.toNat (numV true (List.drop p30 s)) : Nat) : Int), .string (bstr (wdV true (List.drop p1722 s))), .slice a2 (List.length ah) c2] [.int .u64 ((UInt64.toNat (numV true (List.drop p30 s)) : Nat) : Int), .string (bstr (wdV true (List.drop p1722 s))), .slice a2 (List.length ah) c2] [.box bk21 [.string (bstr s), ni q, .bool false] 73, .box bk1710 [.int .u64 ((UInt64.toNat (numV true (List.drop p30 s)) : Nat) : Int), .string (bstr (wdV true (List.drop p1722 s))), .slice a2 (List.length ah) c2] 25, .vec a2 c2 4 (List.flatMap fPair ah) 35, .box bk1 [.int .u64 ((UInt64.toNat (numV true (List.drop p30 s)) : Nat) : Int), .string (bstr (wdV true (List.drop p1722 s))), .slice a2 (List.length ah) c2] 25] En2207 Hv1757 rfl rfl (by simp) (one_all (by kernel_rfl)) rfl rfl fun ac2208 wo2209 En2210 Hv2211 => ?_
     refine d_e [0,2,3,4,5,6] [] En2210 fun ac2212 En2213 => ?_
     refine then_normal ?_
     refine wp_ret ?_
     refine d_cell_tt (v := .agg #[.int .u64 ((UInt64.toNat (numV true (List.drop p30 s)) : Nat) : Int), .string (bstr (wdV true (List.drop p1722 s))), .slice a2 (List.length ah) c2]) (x := .int .i64 0) (y := .int .i64 0) (t := 2) (T := 25) (ad := ⟨bk1, 0, none⟩) (u := 3) (s := 4) En2213 (by kernel_rfl) (by kernel_rfl) (Ev.cellAgg (t := 25) (k := 3) (off := 0) (m := 3) (xs := [.int .u64 ((UInt64.toNat (numV true (List.drop p30 s)) : Nat) : Int), .string (bstr (wdV true (List.drop p1722 s))), .slice a2 (List.length ah) c2]) Hv2211 rfl rfl rfl (by kernel_rfl) (by kernel_rfl)) (by kernel_rfl) (by kernel_rfl) ?_
     exact .inr ⟨(numV true (List.drop p30 s)), (wdV true (List.drop p1722 s)), ah, a2, c2, ps_end hgo2 (by omega), rfl, Hv2211.pick [2] (by kernel_rfl) (by decide), hok, hl1, wdV_len _ _⟩
   | true =>
    refine region_from ?_
    refine d_k [0,2,3,4,5,6,26] [] 3 En1756 fun ac2214 En2215 => ?_
    refine f_o ?_
    refine m_l 0 En2215 Hv1757 fun ac2216 En2217 => ?_
    refine d_e [0,2,3,4,5,6,37] [] En2217 fun ac2218 En2219 => ?_
    refine then_normal ?_
    refine c_f En2219 ?_
    refine wp_exit ?_
    refine then_exit ?_
    refine then_exit ?_
    refine block_exit ?_
    refine then_normal ?_
    refine wp_seq ?_
    refine wp_seq ?_
    refine region_from ?_
    refine d_k [0,2,3,4,5,6,51] [] 3 En2219 fun ac2220 En2221 => ?_
    refine f_o ?_
    refine m_l 0 En2221 Hv1757 fun ac2222 En2223 => ?_
    refine f_e ?_
    refine then_normal ?_
    refine c_t En2223 ?_
    refine wp_seq ?_
    refine r_c (fun ac wo => Env ac 59 [(0, .string (bstr s)), (2, pt bk1), (3, ni q), (4, .int .i64 33), (5, pt bk21), (6, pt bk1710)] ∧ Ev w [] wo [.box bk21 [.string (bstr s), ni q, .bool true] 73, .box bk1710 [.int .u64 ((UInt64.toNat (numV true (List.drop p30 s)) : Nat) : Int), .string (bstr (wdV true (List.drop p1722 s))), .slice a2 (List.length ah) c2] 25, .vec a2 c2 4 (List.flatMap fPair ah) 35, .box bk1 [.int .u64 0, .string (bstr []), .slice none 0 0] 25]) ?_ ?_
    ·
     refine h_s (fun wv => Ev w [] wv [.box bk21 [.string (bstr s), ni q, .bool true] 73]) [] 8 ?_
     have wo2224 := Hv1757.trans (Ev.drew Hv1757.heap)
     refine q_s [0,1,2,3] [] 4 En2223 (wo2224.pick [0] (by kernel_rfl) (by decide)) fun ac2253 En2254 => ?_
     refine q_l 0 4 En2254 (wo2224.pick [0] (by kernel_rfl) (by decide)) fun ac2255 En2256 => ?_
     refine q_t 5 ?_
     refine m_g 3 0 3 [.int .u64 0, .string (bstr []), .slice none 0 0] [.int .u64 0, .string (bstr []), .slice none 0 0] [.box bk21 [.string (bstr s), ni q, .bool true] 73, .box bk1710 [.int .u64 ((UInt64.toNat (numV true (List.drop p30 s)) : Nat) : Int), .string (bstr (wdV true (List.drop p1722 s))), .slice a2 (List.length ah) c2] 25, .vec a2 c2 4 (List.flatMap fPair ah) 35, .box bk1 [.int .u64 0, .string (bstr []), .slice none 0 0] 25] En2256 wo2224 rfl rfl (by simp) (one_all (by kernel_rfl)) rfl rfl fun ac2257 wo2258 En2259 Hv2260 => ?_
     refine ⟨fun _ => Hv2260.pick [0] (by kernel_rfl) (by decide), ?_⟩
     refine q_s [6,7] [] 0 En2259 (Hv2260.pick [0] (by kernel_rfl) (by decide)) fun ac2261 En2262 => ?_
     exact h_e ⟨En2262.sub (by kernel_rfl), Hv2260.pick [0, 1, 2, 3] (by kernel_rfl) (by decide)⟩
    rintro ac2263 wo2264 ⟨En2265, Hv2266⟩
    refine then_normal ?_
    refine wp_ret ?_
    refine then_ret ?_
    refine d_cell_tt (v := .agg #[.int .u64 0, .string (bstr []), .slice none 0 0]) (x := ni q) (y := .int .i64 33) (t := 2) (T := 25) (ad := ⟨bk1, 0, none⟩) (u := 3) (s := 4) En2265 (by kernel_rfl) (by kernel_rfl) (Ev.cellAgg (t := 25) (k := 3) (off := 0) (m := 3) (xs := [.int .u64 0, .string (bstr []), .slice none 0 0]) Hv2266 rfl rfl rfl (by kernel_rfl) (by kernel_rfl)) (by kernel_rfl) (by kernel_rfl) ?_
    have hno : rdL s = none := by first | exact hbd rfl | exact l_0 (by omega)
    exact .inl ⟨hno, q, 33, by decide, (by omega), rfl, Hv2266.pick [] (by kernel_rfl) (by decide)⟩

end Go.Proofs.YtfcfgbejpcmmkaaDoor
