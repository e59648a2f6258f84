import Derived.Test.YtfcfgbejpcmmkaaDoorBk7
/- Layer 3: the reader of lines: pairs. -/

namespace Go.Proofs.YtfcfgbejpcmmkaaDoor
open Go.Dbr
set_option maxRecDepth 100000
set_option maxHeartbeats 2000000
set_option linter.unusedVariables false
set_option linter.unusedSimpArgs false

/-- a pair, behind others, at a place: the pair, the place behind it -/
def rdPr (ah : List RPair) (s : Bs) (k : Nat) : Option (RPair × Nat) :=
  if wdB false (List.drop k s) then none
  else if ¬ (ah.length < 16 ∧ keyB (wdV false (List.drop k s)) ah = true) then none
  else if tkB false [61] (List.drop (k + runN (List.drop k s)) s) then none
  else if ([34] : Bs).isPrefixOf (List.drop (k + runN (List.drop k s) + 1) s) then (rdS false (List.drop (k + runN (List.drop k s) + 1) s)).map fun x => ((wdV false (List.drop k s), false, 0, x.1, ()), k + runN (List.drop k s) + 1 + x.2)
  else if nmB false (List.drop (k + runN (List.drop k s) + 1) s) then none
  else some ((wdV false (List.drop k s), true, numV false (List.drop (k + runN (List.drop k s) + 1) s), [], ()), k + runN (List.drop k s) + 1 + nDg (List.drop (k + runN (List.drop k s) + 1) s))
theorem pr_w {ah : List RPair} {s : Bs} {k : Nat} (h : wdB false (List.drop k s) = true) : rdPr ah s k = none := if_pos h
theorem pr_k {ah : List RPair} {s : Bs} {k : Nat} (h : wdB false (List.drop k s) = false) (g : ¬ (ah.length < 16 ∧ keyB (wdV false (List.drop k s)) ah = true)) : rdPr ah s k = none := by rw [rdPr, h, if_neg (by decide), if_pos g]
theorem pr_e {ah : List RPair} {s : Bs} {k : Nat} (h : wdB false (List.drop k s) = false) (g : ah.length < 16 ∧ keyB (wdV false (List.drop k s)) ah = true) (e : tkB false [61] (List.drop (k + runN (List.drop k s)) s) = true) : rdPr ah s k = none := by rw [rdPr, h, if_neg (by decide), if_neg (not_not_intro g), if_pos e]
theorem pr_v {ah : List RPair} {s : Bs} {k : Nat} (h : wdB false (List.drop k s) = false) (g : ah.length < 16 ∧ keyB (wdV false (List.drop k s)) ah = true) (e : tkB false [61] (List.drop (k + runN (List.drop k s)) s) = false) (q : ([34] : Bs).isPrefixOf (List.drop (k + runN (List.drop k s) + 1) s) = true) :
    rdPr ah s k = (rdS false (List.drop (k + runN (List.drop k s) + 1) s)).map fun x => ((wdV false (List.drop k s), false, 0, x.1, ()), k + runN (List.drop k s) + 1 + x.2) := by rw [rdPr, h, if_neg (by decide), if_neg (not_not_intro g), e, if_neg (by decide), if_pos q]
theorem pr_n {ah : List RPair} {s : Bs} {k : Nat} (h : wdB false (List.drop k s) = false) (g : ah.length < 16 ∧ keyB (wdV false (List.drop k s)) ah = true) (e : tkB false [61] (List.drop (k + runN (List.drop k s)) s) = false) (q : ¬ ([34] : Bs).isPrefixOf (List.drop (k + runN (List.drop k s) + 1) s) = true) :
    rdPr ah s k = if nmB false (List.drop (k + runN (List.drop k s) + 1) s) then none else some ((wdV false (List.drop k s), true, numV false (List.drop (k + runN (List.drop k s) + 1) s), [], ()), k + runN (List.drop k s) + 1 + nDg (List.drop (k + runN (List.drop k s) + 1) s)) := by rw [rdPr, h, if_neg (by decide), if_neg (not_not_intro g), e, if_neg (by decide), if_neg q]
/-- is it bad behind a pair? -/
def prB (bd : Bool) (ah : List RPair) (s : Bs) (k : Nat) : Bool := bd || (rdPr ah s k).isNone
theorem prB_n {bd : Bool} {ah : List RPair} {s : Bs} {k : Nat} (h : bd = true ∨ rdPr ah s k = none) : prB bd ah s k = true := by
  rcases h with rfl | h
  · rfl
  · rw [prB, h]; simp
theorem tx_len : ∀ {f : Nat} {r t : Bs} {n : Nat}, rdTx f r = some (t, n) → t.length < n ∧ n ≤ r.length
  | 0, r, t, n, h => by cases h
  | f + 1, r, t, n, h => by
    unfold rdTx at h
    by_cases h0 : r.length = 0
    · rw [if_pos h0] at h; cases h
    · rw [if_neg h0] at h
      by_cases h1 : r.getD 0 0 = 34
      · rw [if_pos h1] at h; cases h; exact ⟨by decide, by omega⟩
      · rw [if_neg h1] at h
        by_cases h2 : r.getD 0 0 = 92
        · rw [if_pos h2, Option.bind_eq_some_iff] at h
          obtain ⟨e, he, h⟩ := h
          obtain ⟨p, hp, h⟩ := Option.map_eq_some_iff.1 h
          have ih := tx_len hp
          have := esc_le (x := e.1) (j := e.2) he
          rw [List.length_drop] at ih this
          cases h
          exact ⟨by simp only [List.length_cons]; omega, by omega⟩
        · rw [if_neg h2] at h
          split at h
          · obtain ⟨p, hp, h⟩ := Option.map_eq_some_iff.1 h
            have ih := tx_len hp
            rw [List.length_drop] at ih
            cases h
            exact ⟨by simp only [List.length_cons]; omega, by omega⟩
          · cases h
theorem rdS_len {bd : Bool} {r t : Bs} {n : Nat} (h : rdS bd r = some (t, n)) : t.length ≤ r.length ∧ n ≤ r.length := by
  unfold rdS at h
  split at h
  · cases h
  · split at h
    · obtain ⟨p, hp, h⟩ := Option.map_eq_some_iff.1 h
      have := tx_len hp
      rw [List.length_drop] at this
      cases h
      omega
    · cases h
theorem txV_len (bd : Bool) (r : Bs) : (txV bd r).length ≤ r.length := by
  unfold txV
  cases h : rdS bd r with
  | none => exact Nat.zero_le _
  | some p => exact (rdS_len (t := p.1) (n := p.2) h).1
theorem pr_vB {ah : List RPair} {s : Bs} {k : Nat} (h : wdB false (List.drop k s) = false) (g : ah.length < 16 ∧ keyB (wdV false (List.drop k s)) ah = true) (e : tkB false [61] (List.drop (k + runN (List.drop k s)) s) = false) (q : ([34] : Bs).isPrefixOf (List.drop (k + runN (List.drop k s) + 1) s) = true) :
    prB false ah s k = txB false (List.drop (k + runN (List.drop k s) + 1) s) := by
  rw [prB, pr_v h g e q, txB]
  cases rdS false (List.drop (k + runN (List.drop k s) + 1) s) <;> rfl
theorem pr_vx {ah : List RPair} {s : Bs} {k p : Nat} (h : wdB false (List.drop k s) = false) (g : ah.length < 16 ∧ keyB (wdV false (List.drop k s)) ah = true) (e : tkB false [61] (List.drop (k + runN (List.drop k s)) s) = false) (q : ([34] : Bs).isPrefixOf (List.drop (k + runN (List.drop k s) + 1) s) = true)
    (hp : ∀ t n, rdS false (List.drop (k + runN (List.drop k s) + 1) s) = some (t, n) → p = k + runN (List.drop k s) + 1 + n) : ∀ z, rdPr ah s k = some z → ((wdV false (List.drop k s), false, 0, txV false (List.drop (k + runN (List.drop k s) + 1) s), ()) : RPair) = z.1 ∧ p = z.2 := fun z hz => by
  rw [pr_v h g e q] at hz
  obtain ⟨x, hx, hz⟩ := Option.map_eq_some_iff.1 hz
  rw [← hz]
  exact ⟨by rw [txV, hx]; rfl, hp x.1 x.2 hx⟩
theorem pr_nB {ah : List RPair} {s : Bs} {k : Nat} (h : wdB false (List.drop k s) = false) (g : ah.length < 16 ∧ keyB (wdV false (List.drop k s)) ah = true) (e : tkB false [61] (List.drop (k + runN (List.drop k s)) s) = false) (q : ¬ ([34] : Bs).isPrefixOf (List.drop (k + runN (List.drop k s) + 1) s) = true) :
    prB false ah s k = nmB false (List.drop (k + runN (List.drop k s) + 1) s) := by
  rw [prB, pr_n h g e q]
  cases nmB false (List.drop (k + runN (List.drop k s) + 1) s) <;> rfl
theorem pr_nx {ah : List RPair} {s : Bs} {k p : Nat} (h : wdB false (List.drop k s) = false) (g : ah.length < 16 ∧ keyB (wdV false (List.drop k s)) ah = true) (e : tkB false [61] (List.drop (k + runN (List.drop k s)) s) = false) (q : ¬ ([34] : Bs).isPrefixOf (List.drop (k + runN (List.drop k s) + 1) s) = true)
    (hp : nmB false (List.drop (k + runN (List.drop k s) + 1) s) = false → p = k + runN (List.drop k s) + 1 + nDg (List.drop (k + runN (List.drop k s) + 1) s)) : ∀ z, rdPr ah s k = some z → ((wdV false (List.drop k s), true, numV false (List.drop (k + runN (List.drop k s) + 1) s), [], ()) : RPair) = z.1 ∧ p = z.2 := fun z hz => by
  rw [pr_n h g e q] at hz
  split at hz
  · cases hz
  · rename_i hb
    have hb2 := Bool.eq_false_iff.2 hb
    cases hz
    exact ⟨rfl, hp hb2⟩

theorem pair_go (w : World) (rb : Nat) (s : Bs) (k : Nat) (bd : Bool) (hs : List.length s ≤ 1024) (hk : k ≤ List.length s) (al : Option Addr) (cl : Nat) (xs : List RPair) (il : InS fPair 48 (fun y : RPair => ((List.length y.1 ≤ 140737488351232) ∧ (True ∧ (True ∧ ((List.length y.2.2.2.1 ≤ 140737488351232) ∧ (True)))))) w [.box rb [.string (bstr s), ni k, .bool bd] 73] al cl xs) (ge : InE w [.box rb [.string (bstr s), ni k, .bool bd] 73]) (hH : Heap w [.box rb [.string (bstr s), ni k, .bool bd] 73]) : Calls Tryd.prog 29 #[pt rb, .slice al (List.length xs) cl] w fun e w' => ∃ p, ∃ x : RPair, e = .returned (.agg (fPair x).toArray) ∧ Ev w [.box rb [.string (bstr s), ni k, .bool bd] 73] w' [.box rb [.string (bstr s), ni p, .bool (prB bd xs s k)] 73] ∧ p ≤ List.length s ∧ (x.1.length ≤ 1024 ∧ x.2.2.2.1.length ≤ 1024) ∧ (∀ z, bd = false → rdPr xs s k = some z → x = z.1 ∧ p = z.2) := by
 refine d_0 [(0, pt rb), (1, .slice al (List.length xs) cl)] 55 Go.Proofs.Tryd.func29 Go.Proofs.Tryd.ntmps29 (hH) fun act0 En0 Hv0 => ?_
 refine wp_seq ?_
 refine region_from ?_
 refine f_o ?_
 refine m_z 35 [.string (bstr []), .bool false, .int .u64 0, .string (bstr [])] En0 Hv0 fun ac2 wo3 bk1 En4 Hv5 => ?_
 refine f_e ?_
 refine then_normal ?_
 refine wp_seq ?_
 cases bd with
 | false =>
  refine region_from ?_
  refine d_k [0,1,4,9] [] 3 En4 fun ac6 En7 => ?_
  refine f_o ?_
  refine m_l 0 En7 Hv5 fun ac8 En9 => ?_
  refine d_e [0,1,4,5] [] En9 fun ac10 En11 => ?_
  refine then_normal ?_
  refine wp_seq ?_
  refine region_from ?_
  refine d_k [0,1,4,5,11] [] 1 En11 fun ac12 En13 => ?_
  refine f_o ?_
  refine c_l [0] (M := [.box rb [.string (bstr s), ni k, .bool false] 73]) En13 Hv5 (fun hM17 => word_go2 _ rb s k false hs (by omega) hM17) ?_
  rintro _ wo18 ⟨p14, rfl, he19, hp15, hq16⟩
  refine ⟨_, _, [.box rb [.string (bstr s), ni p14, .bool (wdB false (List.drop k s))] 73, .box bk1 [.string (bstr []), .bool false, .int .u64 0, .string (bstr [])] 35], rfl, he19, by kernel_rfl, fun ac21 En22 Hv23 => ?_⟩
  refine d_k [0,1,4,5,13] [] 3 En22 fun ac24 En25 => ?_
  refine f_o ?_
  refine m_z 35 [.string (bstr []), .bool false, .int .u64 0, .string (bstr [])] En25 Hv23 fun ac27 wo28 bk26 En29 Hv30 => ?_
  refine f_o ?_
  refine m_g 2 0 4 [.string (bstr (wdV false (List.drop k s))), .bool false, .int .u64 0, .string (bstr [])] [.string (bstr (wdV false (List.drop k s))), .bool false, .int .u64 0, .string (bstr [])] [.box rb [.string (bstr s), ni p14, .bool (wdB false (List.drop k s))] 73, .box bk1 [.string (bstr []), .bool false, .int .u64 0, .string (bstr [])] 35, .box bk26 [.string (bstr (wdV false (List.drop k s))), .bool false, .int .u64 0, .string (bstr [])] 35] En29 Hv30 rfl rfl (by simp) (one_all (by kernel_rfl)) rfl rfl fun ac31 wo32 En33 Hv34 => ?_
  refine f_e ?_
  refine then_normal ?_
  refine wp_seq ?_
  refine wp_seq ?_
  have hrl := run_le (List.drop k s)
  have hdl0 : List.length (List.drop k s) = List.length s - k := List.length_drop
  have hzl := il.small
  have hkl := wdV_len false (List.drop k s)
  have hkl1 := wdV_len true (List.drop k s)
  cases hbw : wdB false (List.drop k s) with
  | false =>
   have hpe_ : p14 = k + runN (List.drop k s) := hq16 hbw
   subst hpe_
   have Hv35 : Ev w [.box rb [.string (bstr s), ni k, .bool false] 73] wo32 [.box rb [.string (bstr s), .int .i64 ((k + runN (List.drop k s) : Nat) : Int), .bool false] 73, .box bk1 [.string (bstr []), .bool false, .int .u64 0, .string (bstr [])] 35, .box bk26 [.string (bstr (wdV false (List.drop k s))), .bool false, .int .u64 0, .string (bstr [])] 35] := by have h := Hv34; rw [hbw] at h; exact h
   have hrl := run_le (List.drop k s)
   have hdl0 : List.length (List.drop k s) = List.length s - k := List.length_drop
   have hzl := il.small
   have hkl := wdV_len false (List.drop k s)
   have hkl1 := wdV_len true (List.drop k s)
   refine region_from ?_
   refine d_k [0,1,4,5,6,16] [] 3 En33 fun ac36 En37 => ?_
   refine f_o ?_
   refine m_l 0 En37 Hv35 fun ac38 En39 => ?_
   refine d_k [0,1,4,5,6,19,23] [] 10 En39 fun ac40 En41 => ?_
   rcases Bool.eq_false_or_eq_true (decide (((List.length xs : Nat) : Int) ≥ (16 : Int))) with hb42 | hb42
   ·
    have En43 := En41.fx (t := 23) (congrArg Value.bool hb42)
    have hp44 : ((List.length xs : Nat) : Int) ≥ (16 : Int) := of_decide_eq_true hb42
    refine d_e [0,4,5,6,30] [] En43 fun ac45 En46 => ?_
    refine then_normal ?_
    refine c_t En46 ?_
    refine region_from ?_
    refine d_k [0,4,6,31,32] [] 2 En46 fun ac47 En48 => ?_
    refine f_o ?_
    refine c_l [0] (M := [.box rb [.string (bstr s), .int .i64 ((k + runN (List.drop k s) : Nat) : Int), .bool false] 73]) En48 Hv35 (fun hM49 => fail_go _ rb s (k + runN (List.drop k s)) k false hM49) ?_
    rintro _ wo50 ⟨rfl, he51⟩
    refine ⟨_, _, [.box rb [.string (bstr s), ni k, .bool true] 73, .box bk1 [.string (bstr []), .bool false, .int .u64 0, .string (bstr [])] 35, .box bk26 [.string (bstr (wdV false (List.drop k s))), .bool false, .int .u64 0, .string (bstr [])] 35], rfl, he51, by kernel_rfl, fun ac53 En54 Hv55 => ?_⟩
    refine f_e ?_
    refine then_normal ?_
    refine wp_seq ?_
    refine region_from ?_
    refine d_k [0,4,6,34] [] 1 En54 fun ac56 En57 => ?_
    refine f_o ?_
    refine c_l [0] (M := [.box rb [.string (bstr s), ni k, .bool true] 73]) En57 Hv55 (fun hM61 => take_go _ rb s [61] k true hs (by omega) hM61) ?_
    rintro _ wo62 ⟨p58, rfl, he63, hp59, hq60⟩
    refine ⟨_, _, [.box rb [.string (bstr s), ni p58, .bool (tkB true [61] (List.drop k s))] 73, .box bk1 [.string (bstr []), .bool false, .int .u64 0, .string (bstr [])] 35, .box bk26 [.string (bstr (wdV false (List.drop k s))), .bool false, .int .u64 0, .string (bstr [])] 35], rfl, he63, by kernel_rfl, fun ac65 En66 Hv67 => ?_⟩
    refine f_e ?_
    refine then_normal ?_
    refine wp_seq ?_
    refine wp_seq ?_
    have Hv68 : Ev w [.box rb [.string (bstr s), ni k, .bool false] 73] wo62 [.box rb [.string (bstr s), ni p58, .bool true] 73, .box bk1 [.string (bstr []), .bool false, .int .u64 0, .string (bstr [])] 35, .box bk26 [.string (bstr (wdV false (List.drop k s))), .bool false, .int .u64 0, .string (bstr [])] 35] := by have h := Hv67; skip; exact h
    refine region_from ?_
    refine d_k [0,4,6,38] [] 3 En66 fun ac69 En70 => ?_
    refine f_o ?_
    refine m_l 0 En70 Hv68 fun ac71 En72 => ?_
    refine d_e [0,4,6,45] [] En72 fun ac73 En74 => ?_
    refine then_normal ?_
    refine c_f En74 ?_
    refine wp_skip ?_
    refine then_normal ?_
    refine wp_seq ?_
    refine region_from ?_
    refine d_k [0,4,6,50] [] 1 En74 fun ac75 En76 => ?_
    refine f_o ?_
    refine c_l [0] (M := [.box rb [.string (bstr s), ni p58, .bool true] 73]) En76 Hv68 (fun hM80 => number_go _ rb s p58 true hs (by omega) ((ge.ev Hv68).pick [0] (by kernel_rfl)) hM80) ?_
    rintro _ wo81 ⟨p77, rfl, he82, hp78, hq79⟩
    refine ⟨_, _, [.box rb [.string (bstr s), ni p77, .bool (nmB true (List.drop p58 s))] 73, .box bk1 [.string (bstr []), .bool false, .int .u64 0, .string (bstr [])] 35, .box bk26 [.string (bstr (wdV false (List.drop k s))), .bool false, .int .u64 0, .string (bstr [])] 35], rfl, he82, by kernel_rfl, fun ac84 En85 Hv86 => ?_⟩
    refine d_k [0,4,6,51,52] [] 3 En85 fun ac87 En88 => ?_
    refine f_o ?_
    refine m_s 2 [.box rb [.string (bstr s), ni p77, .bool (nmB true (List.drop p58 s))] 73, .box bk1 [.string (bstr []), .bool false, .int .u64 0, .string (bstr [])] 35, .box bk26 [.string (bstr (wdV false (List.drop k s))), .bool true, .int .u64 0, .string (bstr [])] 35] En88 Hv86 fun ac89 wo90 En91 Hv92 => ?_
    refine d_k [0,4,6,51,53] [] 5 En91 fun ac93 En94 => ?_
    refine f_o ?_
    refine m_s 2 [.box rb [.string (bstr s), ni p77, .bool (nmB true (List.drop p58 s))] 73, .box bk1 [.string (bstr []), .bool false, .int .u64 0, .string (bstr [])] 35, .box bk26 [.string (bstr (wdV false (List.drop k s))), .bool true, .int .u64 ((UInt64.toNat (numV true (List.drop p58 s)) : Nat) : Int), .string (bstr [])] 35] En94 Hv92 fun ac95 wo96 En97 Hv98 => ?_
    refine f_e ?_
    refine then_normal ?_
    refine wp_seq ?_
    refine region_from ?_
    refine f_o ?_
    refine m_a 2 0 4 [.string (bstr (wdV false (List.drop k s))), .bool true, .int .u64 ((UInt64.toNat (numV true (List.drop p58 s)) : Nat) : Int), .string (bstr [])] En97 Hv98 rfl rfl rfl fun ac99 En100 => ?_
    refine f_o ?_
    refine m_g 1 0 4 [.string (bstr (wdV false (List.drop k s))), .bool true, .int .u64 ((UInt64.toNat (numV true (List.drop p58 s)) : Nat) : Int), .string (bstr [])] [.string (bstr (wdV false (List.drop k s))), .bool true, .int .u64 ((UInt64.toNat (numV true (List.drop p58 s)) : Nat) : Int), .string (bstr [])] [.box rb [.string (bstr s), ni p77, .bool (nmB true (List.drop p58 s))] 73, .box bk1 [.string (bstr (wdV false (List.drop k s))), .bool true, .int .u64 ((UInt64.toNat (numV true (List.drop p58 s)) : Nat) : Int), .string (bstr [])] 35, .box bk26 [.string (bstr (wdV false (List.drop k s))), .bool true, .int .u64 ((UInt64.toNat (numV true (List.drop p58 s)) : Nat) : Int), .string (bstr [])] 35] En100 Hv98 rfl rfl (by simp) (one_all (by kernel_rfl)) rfl rfl fun ac101 wo102 En103 Hv104 => ?_
    refine f_e ?_
    refine then_normal ?_
    refine wp_ret ?_
    refine d_cell1 (v := .agg #[.string (bstr (wdV false (List.drop k s))), .bool true, .int .u64 ((UInt64.toNat (numV true (List.drop p58 s)) : Nat) : Int), .string (bstr [])]) (t := 4) (T := 35) (ad := ⟨bk1, 0, none⟩) En103 (by kernel_rfl) (by kernel_rfl) (Ev.cellAgg (t := 35) (k := 1) (off := 0) (m := 4) (xs := [.string (bstr (wdV false (List.drop k s))), .bool true, .int .u64 ((UInt64.toNat (numV true (List.drop p58 s)) : Nat) : Int), .string (bstr [])]) Hv104 rfl rfl rfl (by kernel_rfl) (by kernel_rfl)) ?_
    have hno : false = true ∨ rdPr xs s k = none := by first | exact .inl rfl | exact .inr (pr_w hbw) | exact .inr (pr_e hbw ⟨by omega, by assumption⟩ hbt) | exact .inr (pr_k hbw (fun g => by first | omega | exact absurd g.2 (by assumption)))
    rw [prB_n hno]
    refine ⟨p77, (wdV false (List.drop k s), true, numV true (List.drop p58 s), [], ()), rfl, Hv104.pick [0] (by kernel_rfl) (by decide), (by omega), ⟨by simp only [txV, rds_t, Option.map_none, Option.getD_none, List.length_nil]; omega, by simp only [txV, rds_t, Option.map_none, Option.getD_none, List.length_nil]; omega⟩, (fun z hz h => ?_)⟩
    rcases hno with hno | hno
    ·
     first | (cases hz; done) | (cases hno; done)
    ·
     rw [hno] at h; cases h
   ·
    have En105 := En41.fx (t := 23) (congrArg Value.bool hb42)
    have hp106 : ¬ (((List.length xs : Nat) : Int) ≥ (16 : Int)) := of_decide_eq_false hb42
    refine d_k [0,1,4,5,6,19,23,24] [] 11 En105 fun ac107 En108 => ?_
    refine f_o ?_
    refine m_l 2 En108 Hv35 fun ac109 En110 => ?_
    refine d_k [0,4,5,6,19,23,25,26] [] 13 En110 fun ac111 En112 => ?_
    refine f_o ?_
    refine c_p En112 Hv35 (keyed_go _ (wdV false (List.drop k s)) (by first | assumption | omega) (List.length xs) al cl xs (il.go Hv35 [] (by kernel_rfl) (fun _ h => ⟨h.1, h.2.1, h.2.2.1, h.2.2.2.1, h.2.2.2.2⟩)) (by first | rfl | (rw [List.length_take]; omega))) fun ac117 wo114 En118 Hv119 => ?_
    refine d_e [0,4,5,6,30] [] En118 fun ac120 En121 => ?_
    refine then_normal ?_
    refine cond_at En121 (t := !(keyB (wdV false (List.drop k s)) xs)) (by kernel_rfl) (fun hc122 => ?_) (fun hc122 => ?_)
    ·
     replace hc122 : ¬ (keyB (wdV false (List.drop k s)) xs = true) := by first | exact nb_t hc122 | exact nb_f hc122 | (simp at hc122; done) | (simp; done) | simpa using hc122
     refine region_from ?_
     refine d_k [0,4,6,31,32] [] 2 En121 fun ac123 En124 => ?_
     refine f_o ?_
     refine c_l [0] (M := [.box rb [.string (bstr s), .int .i64 ((k + runN (List.drop k s) : Nat) : Int), .bool false] 73]) En124 Hv119 (fun hM125 => fail_go _ rb s (k + runN (List.drop k s)) k false hM125) ?_
     rintro _ wo126 ⟨rfl, he127⟩
     refine ⟨_, _, [.box rb [.string (bstr s), ni k, .bool true] 73, .box bk1 [.string (bstr []), .bool false, .int .u64 0, .string (bstr [])] 35, .box bk26 [.string (bstr (wdV false (List.drop k s))), .bool false, .int .u64 0, .string (bstr [])] 35], rfl, he127, by kernel_rfl, fun ac129 En130 Hv131 => ?_⟩
     refine f_e ?_
     refine then_normal ?_
     refine wp_seq ?_
     refine region_from ?_
     refine d_k [0,4,6,34] [] 1 En130 fun ac132 En133 => ?_
     refine f_o ?_
     refine c_l [0] (M := [.box rb [.string (bstr s), ni k, .bool true] 73]) En133 Hv131 (fun hM137 => take_go _ rb s [61] k true hs (by omega) hM137) ?_
     rintro _ wo138 ⟨p134, rfl, he139, hp135, hq136⟩
     refine ⟨_, _, [.box rb [.string (bstr s), ni p134, .bool (tkB true [61] (List.drop k s))] 73, .box bk1 [.string (bstr []), .bool false, .int .u64 0, .string (bstr [])] 35, .box bk26 [.string (bstr (wdV false (List.drop k s))), .bool false, .int .u64 0, .string (bstr [])] 35], rfl, he139, by kernel_rfl, fun ac141 En142 Hv143 => ?_⟩
     refine f_e ?_
     refine then_normal ?_
     refine wp_seq ?_
     refine wp_seq ?_
     have Hv144 : Ev w [.box rb [.string (bstr s), ni k, .bool false] 73] wo138 [.box rb [.string (bstr s), ni p134, .bool true] 73, .box bk1 [.string (bstr []), .bool false, .int .u64 0, .string (bstr [])] 35, .box bk26 [.string (bstr (wdV false (List.drop k s))), .bool false, .int .u64 0, .string (bstr [])] 35] := by have h := Hv143; skip; exact h
     refine region_from ?_
     refine d_k [0,4,6,38] [] 3 En142 fun ac145 En146 => ?_
     refine f_o ?_
     refine m_l 0 En146 Hv144 fun ac147 En148 => ?_
     refine d_e [0,4,6,45] [] En148 fun ac149 En150 => ?_
     refine then_normal ?_
     refine c_f En150 ?_
     refine wp_skip ?_
     refine then_normal ?_
     refine wp_seq ?_
     refine region_from ?_
     refine d_k [0,4,6,50] [] 1 En150 fun ac151 En152 => ?_
     refine f_o ?_
     refine c_l [0] (M := [.box rb [.string (bstr s), ni p134, .bool true] 73]) En152 Hv144 (fun hM156 => number_go _ rb s p134 true hs (by omega) ((ge.ev Hv144).pick [0] (by kernel_rfl)) hM156) ?_
     rintro _ wo157 ⟨p153, rfl, he158, hp154, hq155⟩
     refine ⟨_, _, [.box rb [.string (bstr s), ni p153, .bool (nmB true (List.drop p134 s))] 73, .box bk1 [.string (bstr []), .bool false, .int .u64 0, .string (bstr [])] 35, .box bk26 [.string (bstr (wdV false (List.drop k s))), .bool false, .int .u64 0, .string (bstr [])] 35], rfl, he158, by kernel_rfl, fun ac160 En161 Hv162 => ?_⟩
     refine d_k [0,4,6,51,52] [] 3 En161 fun ac163 En164 => ?_
     refine f_o ?_
     refine m_s 2 [.box rb [.string (bstr s), ni p153, .bool (nmB true (List.drop p134 s))] 73, .box bk1 [.string (bstr []), .bool false, .int .u64 0, .string (bstr [])] 35, .box bk26 [.string (bstr (wdV false (List.drop k s))), .bool true, .int .u64 0, .string (bstr [])] 35] En164 Hv162 fun ac165 wo166 En167 Hv168 => ?_
     refine d_k [0,4,6,51,53] [] 5 En167 fun ac169 En170 => ?_
     refine f_o ?_
     refine m_s 2 [.box rb [.string (bstr s), ni p153, .bool (nmB true (List.drop p134 s))] 73, .box bk1 [.string (bstr []), .bool false, .int .u64 0, .string (bstr [])] 35, .box bk26 [.string (bstr (wdV false (List.drop k s))), .bool true, .int .u64 ((UInt64.toNat (numV true (List.drop p134 s)) : Nat) : Int), .string (bstr [])] 35] En170 Hv168 fun ac171 wo172 En173 Hv174 => ?_
     refine f_e ?_
     refine then_normal ?_
     refine wp_seq ?_
     refine region_from ?_
     refine f_o ?_
     refine m_a 2 0 4 [.string (bstr (wdV false (List.drop k s))), .bool true, .int .u64 ((UInt64.toNat (numV true (List.drop p134 s)) : Nat) : Int), .string (bstr [])] En173 Hv174 rfl rfl rfl fun ac175 En176 => ?_
     refine f_o ?_
     refine m_g 1 0 4 [.string (bstr (wdV false (List.drop k s))), .bool true, .int .u64 ((UInt64.toNat (numV true (List.drop p134 s)) : Nat) : Int), .string (bstr [])] [.string (bstr (wdV false (List.drop k s))), .bool true, .int .u64 ((UInt64.toNat (numV true (List.drop p134 s)) : Nat) : Int), .string (bstr [])] [.box rb [.string (bstr s), ni p153, .bool (nmB true (List.drop p134 s))] 73, .box bk1 [.string (bstr (wdV false (List.drop k s))), .bool true, .int .u64 ((UInt64.toNat (numV true (List.drop p134 s)) : Nat) : Int), .string (bstr [])] 35, .box bk26 [.string (bstr (wdV false (List.drop k s))), .bool true, .int .u64 ((UInt64.toNat (numV true (List.drop p134 s)) : Nat) : Int), .string (bstr [])] 35] En176 Hv174 rfl rfl (by simp) (one_all (by kernel_rfl)) rfl rfl fun ac177 wo178 En179 Hv180 => ?_
     refine f_e ?_
     refine then_normal ?_
     refine wp_ret ?_
     refine d_cell1 (v := .agg #[.string (bstr (wdV false (List.drop k s))), .bool true, .int .u64 ((UInt64.toNat (numV true (List.drop p134 s)) : Nat) : Int), .string (bstr [])]) (t := 4) (T := 35) (ad := ⟨bk1, 0, none⟩) En179 (by kernel_rfl) (by kernel_rfl) (Ev.cellAgg (t := 35) (k := 1) (off := 0) (m := 4) (xs := [.string (bstr (wdV false (List.drop k s))), .bool true, .int .u64 ((UInt64.toNat (numV true (List.drop p134 s)) : Nat) : Int), .string (bstr [])]) Hv180 rfl rfl rfl (by kernel_rfl) (by kernel_rfl)) ?_
     have hno : false = true ∨ rdPr xs s k = none := by first | exact .inl rfl | exact .inr (pr_w hbw) | exact .inr (pr_e hbw ⟨by omega, by assumption⟩ hbt) | exact .inr (pr_k hbw (fun g => by first | omega | exact absurd g.2 (by assumption)))
     rw [prB_n hno]
     refine ⟨p153, (wdV false (List.drop k s), true, numV true (List.drop p134 s), [], ()), rfl, Hv180.pick [0] (by kernel_rfl) (by decide), (by omega), ⟨by simp only [txV, rds_t, Option.map_none, Option.getD_none, List.length_nil]; omega, by simp only [txV, rds_t, Option.map_none, Option.getD_none, List.length_nil]; omega⟩, (fun z hz h => ?_)⟩
     rcases hno with hno | hno
     ·
      first | (cases hz; done) | (cases hno; done)
     ·
      rw [hno] at h; cases h
    ·
     replace hc122 : keyB (wdV false (List.drop k s)) xs = true := by first | exact nb_t hc122 | exact nb_f hc122 | (simp at hc122; done) | (simp; done) | simpa using hc122
     refine wp_skip ?_
     refine then_normal ?_
     refine wp_seq ?_
     refine region_from ?_
     refine d_k [0,4,5,6,34] [] 1 En121 fun ac181 En182 => ?_
     refine f_o ?_
     refine c_l [0] (M := [.box rb [.string (bstr s), .int .i64 ((k + runN (List.drop k s) : Nat) : Int), .bool false] 73]) En182 Hv119 (fun hM186 => take_go _ rb s [61] (k + runN (List.drop k s)) false hs (by omega) hM186) ?_
     rintro _ wo187 ⟨p183, rfl, he188, hp184, hq185⟩
     refine ⟨_, _, [.box rb [.string (bstr s), ni p183, .bool (tkB false [61] (List.drop (k + runN (List.drop k s)) s))] 73, .box bk1 [.string (bstr []), .bool false, .int .u64 0, .string (bstr [])] 35, .box bk26 [.string (bstr (wdV false (List.drop k s))), .bool false, .int .u64 0, .string (bstr [])] 35], rfl, he188, by kernel_rfl, fun ac190 En191 Hv192 => ?_⟩
     refine f_e ?_
     refine then_normal ?_
     refine wp_seq ?_
     refine wp_seq ?_
     cases hbt : tkB false [61] (List.drop (k + runN (List.drop k s)) s) with
     | false =>
      have hpe_ : p183 = k + runN (List.drop k s) + 1 := hq185 hbt
      subst hpe_
      have Hv193 : Ev w [.box rb [.string (bstr s), ni k, .bool false] 73] wo187 [.box rb [.string (bstr s), .int .i64 ((k + runN (List.drop k s) + 1 : Nat) : Int), .bool false] 73, .box bk1 [.string (bstr []), .bool false, .int .u64 0, .string (bstr [])] 35, .box bk26 [.string (bstr (wdV false (List.drop k s))), .bool false, .int .u64 0, .string (bstr [])] 35] := by have h := Hv192; rw [hbt] at h; exact h
      refine region_from ?_
      refine d_k [0,4,5,6,38] [] 3 En191 fun ac194 En195 => ?_
      refine f_o ?_
      refine m_l 0 En195 Hv193 fun ac196 En197 => ?_
      refine d_k [0,4,5,6,41,42] [] 7 En197 fun ac198 En199 => ?_
      refine f_o ?_
      refine c_l [0] (M := [.box rb [.string (bstr s), .int .i64 ((k + runN (List.drop k s) + 1 : Nat) : Int), .bool false] 73]) En199 Hv193 (fun hM200 => rest_go _ rb s (k + runN (List.drop k s) + 1) false hs (by omega) hM200) ?_
      rintro _ wo201 ⟨rfl, he202⟩
      refine ⟨_, _, [.box rb [.string (bstr s), .int .i64 ((k + runN (List.drop k s) + 1 : Nat) : Int), .bool false] 73, .box bk1 [.string (bstr []), .bool false, .int .u64 0, .string (bstr [])] 35, .box bk26 [.string (bstr (wdV false (List.drop k s))), .bool false, .int .u64 0, .string (bstr [])] 35], rfl, he202, by kernel_rfl, fun ac204 En205 Hv206 => ?_⟩
      refine f_o ?_
      refine c_p En205 Hv206 (has_go _ (List.drop (k + runN (List.drop k s) + 1) s) [34]) fun ac211 wo208 En212 Hv213 => ?_
      refine d_e [0,4,5,6,45] [] En212 fun ac214 En215 => ?_
      refine then_normal ?_
      refine cond_at En215 (t := List.isPrefixOf [34] (List.drop (k + runN (List.drop k s) + 1) s)) (by kernel_rfl) (fun hc216 => ?_) (fun hc216 => ?_)
      ·
       replace hc216 : List.isPrefixOf [34] (List.drop (k + runN (List.drop k s) + 1) s) = true := hc216
       refine wp_seq ?_
       refine region_from ?_
       refine d_k [0,4,5,6,46] [] 1 En215 fun ac217 En218 => ?_
       refine f_o ?_
       refine c_l [0] (M := [.box rb [.string (bstr s), .int .i64 ((k + runN (List.drop k s) + 1 : Nat) : Int), .bool false] 73]) En218 Hv213 (fun hM222 => text_go _ rb s (k + runN (List.drop k s) + 1) false hs (by omega) hM222) ?_
       rintro _ wo223 ⟨p219, rfl, he224, hp220, hq221⟩
       refine ⟨_, _, [.box rb [.string (bstr s), ni p219, .bool (txB false (List.drop (k + runN (List.drop k s) + 1) s))] 73, .box bk1 [.string (bstr []), .bool false, .int .u64 0, .string (bstr [])] 35, .box bk26 [.string (bstr (wdV false (List.drop k s))), .bool false, .int .u64 0, .string (bstr [])] 35], rfl, he224, by kernel_rfl, fun ac226 En227 Hv228 => ?_⟩
       refine d_k [0,4,5,6,47,48] [] 3 En227 fun ac229 En230 => ?_
       refine f_o ?_
       refine m_s 2 [.box rb [.string (bstr s), ni p219, .bool (txB false (List.drop (k + runN (List.drop k s) + 1) s))] 73, .box bk1 [.string (bstr []), .bool false, .int .u64 0, .string (bstr [])] 35, .box bk26 [.string (bstr (wdV false (List.drop k s))), .bool false, .int .u64 0, .string (bstr (txV false (List.drop (k + runN (List.drop k s) + 1) s)))] 35] En230 Hv228 fun ac231 wo232 En233 Hv234 => ?_
       refine f_e ?_
       refine then_normal ?_
       refine wp_seq ?_
       refine region_from ?_
       refine f_o ?_
       refine m_a 2 0 4 [.string (bstr (wdV false (List.drop k s))), .bool false, .int .u64 0, .string (bstr (txV false (List.drop (k + runN (List.drop k s) + 1) s)))] En233 Hv234 rfl rfl rfl fun ac235 En236 => ?_
       refine f_o ?_
       refine m_g 1 0 4 [.string (bstr (wdV false (List.drop k s))), .bool false, .int .u64 0, .string (bstr (txV false (List.drop (k + runN (List.drop k s) + 1) s)))] [.string (bstr (wdV false (List.drop k s))), .bool false, .int .u64 0, .string (bstr (txV false (List.drop (k + runN (List.drop k s) + 1) s)))] [.box rb [.string (bstr s), ni p219, .bool (txB false (List.drop (k + runN (List.drop k s) + 1) s))] 73, .box bk1 [.string (bstr (wdV false (List.drop k s))), .bool false, .int .u64 0, .string (bstr (txV false (List.drop (k + runN (List.drop k s) + 1) s)))] 35, .box bk26 [.string (bstr (wdV false (List.drop k s))), .bool false, .int .u64 0, .string (bstr (txV false (List.drop (k + runN (List.drop k s) + 1) s)))] 35] En236 Hv234 rfl rfl (by simp) (one_all (by kernel_rfl)) rfl rfl fun ac237 wo238 En239 Hv240 => ?_
       refine f_e ?_
       refine then_normal ?_
       refine wp_ret ?_
       refine then_ret ?_
       refine d_cell1 (v := .agg #[.string (bstr (wdV false (List.drop k s))), .bool false, .int .u64 0, .string (bstr (txV false (List.drop (k + runN (List.drop k s) + 1) s)))]) (t := 4) (T := 35) (ad := ⟨bk1, 0, none⟩) En239 (by kernel_rfl) (by kernel_rfl) (Ev.cellAgg (t := 35) (k := 1) (off := 0) (m := 4) (xs := [.string (bstr (wdV false (List.drop k s))), .bool false, .int .u64 0, .string (bstr (txV false (List.drop (k + runN (List.drop k s) + 1) s)))]) Hv240 rfl rfl rfl (by kernel_rfl) (by kernel_rfl)) ?_
       have htl := txV_len false (List.drop (k + runN (List.drop k s) + 1) s)
       rw [List.length_drop] at htl
       rw [pr_vB hbw ⟨by omega, by assumption⟩ hbt (by assumption)]
       exact ⟨p219, (wdV false (List.drop k s), false, (0 : UInt64), txV false (List.drop (k + runN (List.drop k s) + 1) s), ()), rfl, Hv240.pick [0] (by kernel_rfl) (by decide), (by omega), ⟨by show List.length (wdV false (List.drop k s)) ≤ 1024; omega, by show List.length (txV false _) ≤ 1024; omega⟩, (fun z _ => pr_vx hbw ⟨by omega, by assumption⟩ hbt (by assumption) hq221 z)⟩
      ·
       replace hc216 : ¬ (List.isPrefixOf [34] (List.drop (k + runN (List.drop k s) + 1) s) = true) := Bool.eq_false_iff.1 hc216
       refine wp_skip ?_
       refine then_normal ?_
       refine wp_seq ?_
       refine region_from ?_
       refine d_k [0,4,5,6,50] [] 1 En215 fun ac241 En242 => ?_
       refine f_o ?_
       refine c_l [0] (M := [.box rb [.string (bstr s), .int .i64 ((k + runN (List.drop k s) + 1 : Nat) : Int), .bool false] 73]) En242 Hv213 (fun hM246 => number_go _ rb s (k + runN (List.drop k s) + 1) false hs (by omega) ((ge.ev Hv213).pick [0] (by kernel_rfl)) hM246) ?_
       rintro _ wo247 ⟨p243, rfl, he248, hp244, hq245⟩
       refine ⟨_, _, [.box rb [.string (bstr s), ni p243, .bool (nmB false (List.drop (k + runN (List.drop k s) + 1) s))] 73, .box bk1 [.string (bstr []), .bool false, .int .u64 0, .string (bstr [])] 35, .box bk26 [.string (bstr (wdV false (List.drop k s))), .bool false, .int .u64 0, .string (bstr [])] 35], rfl, he248, by kernel_rfl, fun ac250 En251 Hv252 => ?_⟩
       refine d_k [0,4,5,6,51,52] [] 3 En251 fun ac253 En254 => ?_
       refine f_o ?_
       refine m_s 2 [.box rb [.string (bstr s), ni p243, .bool (nmB false (List.drop (k + runN (List.drop k s) + 1) s))] 73, .box bk1 [.string (bstr []), .bool false, .int .u64 0, .string (bstr [])] 35, .box bk26 [.string (bstr (wdV false (List.drop k s))), .bool true, .int .u64 0, .string (bstr [])] 35] En254 Hv252 fun ac255 wo256 En257 Hv258 => ?_
       refine d_k [0,4,5,6,51,53] [] 5 En257 fun ac259 En260 => ?_
       refine f_o ?_
       refine m_s 2 [.box rb [.string (bstr s), ni p243, .bool (nmB false (List.drop (k + runN (List.drop k s) + 1) s))] 73, .box bk1 [.string (bstr []), .bool false, .int .u64 0, .string (bstr [])] 35, .box bk26 [.string (bstr (wdV false (List.drop k s))), .bool true, .int .u64 ((UInt64.toNat (numV false (List.drop (k + runN (List.drop k s) + 1) s)) : Nat) : Int), .string (bstr [])] 35] En260 Hv258 fun ac261 wo262 En263 Hv264 => ?_
       refine f_e ?_
       refine then_normal ?_
       refine wp_seq ?_
       refine region_from ?_
       refine f_o ?_
       refine m_a 2 0 4 [.string (bstr (wdV false (List.drop k s))), .bool true, .int .u64 ((UInt64.toNat (numV false (List.drop (k + runN (List.drop k s) + 1) s)) : Nat) : Int), .string (bstr [])] En263 Hv264 rfl rfl rfl fun ac265 En266 => ?_
       refine f_o ?_
       refine m_g 1 0 4 [.string (bstr (wdV false (List.drop k s))), .bool true, .int .u64 ((UInt64.toNat (numV false (List.drop (k + runN (List.drop k s) + 1) s)) : Nat) : Int), .string (bstr [])] [.string (bstr (wdV false (List.drop k s))), .bool true, .int .u64 ((UInt64.toNat (numV false (List.drop (k + runN (List.drop k s) + 1) s)) : Nat) : Int), .string (bstr [])] [.box rb [.string (bstr s), ni p243, .bool (nmB false (List.drop (k + runN (List.drop k s) + 1) s))] 73, .box bk1 [.string (bstr (wdV false (List.drop k s))), .bool true, .int .u64 ((UInt64.toNat (numV false (List.drop (k + runN (List.drop k s) + 1) s)) : Nat) : Int), .string (bstr [])] 35, .box bk26 [.string (bstr (wdV false (List.drop k s))), .bool true, .int .u64 ((UInt64.toNat (numV false (List.drop (k + runN (List.drop k s) + 1) s)) : Nat) : Int), .string (bstr [])] 35] En266 Hv264 rfl rfl (by simp) (one_all (by kernel_rfl)) rfl rfl fun ac267 wo268 En269 Hv270 => ?_
       refine f_e ?_
       refine then_normal ?_
       refine wp_ret ?_
       refine d_cell1 (v := .agg #[.string (bstr (wdV false (List.drop k s))), .bool true, .int .u64 ((UInt64.toNat (numV false (List.drop (k + runN (List.drop k s) + 1) s)) : Nat) : Int), .string (bstr [])]) (t := 4) (T := 35) (ad := ⟨bk1, 0, none⟩) En269 (by kernel_rfl) (by kernel_rfl) (Ev.cellAgg (t := 35) (k := 1) (off := 0) (m := 4) (xs := [.string (bstr (wdV false (List.drop k s))), .bool true, .int .u64 ((UInt64.toNat (numV false (List.drop (k + runN (List.drop k s) + 1) s)) : Nat) : Int), .string (bstr [])]) Hv270 rfl rfl rfl (by kernel_rfl) (by kernel_rfl)) ?_
       rw [pr_nB hbw ⟨by omega, by assumption⟩ hbt (by assumption)]
       exact ⟨p243, (wdV false (List.drop k s), true, numV false (List.drop (k + runN (List.drop k s) + 1) s), [], ()), rfl, Hv270.pick [0] (by kernel_rfl) (by decide), (by omega), ⟨by show List.length (wdV false (List.drop k s)) ≤ 1024; omega, (Nat.zero_le _)⟩, (fun z _ => pr_nx hbw ⟨by omega, by assumption⟩ hbt (by assumption) hq245 z)⟩
     | true =>
      have Hv271 : Ev w [.box rb [.string (bstr s), ni k, .bool false] 73] wo187 [.box rb [.string (bstr s), ni p183, .bool true] 73, .box bk1 [.string (bstr []), .bool false, .int .u64 0, .string (bstr [])] 35, .box bk26 [.string (bstr (wdV false (List.drop k s))), .bool false, .int .u64 0, .string (bstr [])] 35] := by have h := Hv192; rw [hbt] at h; exact h
      refine region_from ?_
      refine d_k [0,4,5,6,38] [] 3 En191 fun ac272 En273 => ?_
      refine f_o ?_
      refine m_l 0 En273 Hv271 fun ac274 En275 => ?_
      refine d_e [0,4,5,6,45] [] En275 fun ac276 En277 => ?_
      refine then_normal ?_
      refine c_f En277 ?_
      refine wp_skip ?_
      refine then_normal ?_
      refine wp_seq ?_
      refine region_from ?_
      refine d_k [0,4,5,6,50] [] 1 En277 fun ac278 En279 => ?_
      refine f_o ?_
      refine c_l [0] (M := [.box rb [.string (bstr s), ni p183, .bool true] 73]) En279 Hv271 (fun hM283 => number_go _ rb s p183 true hs (by omega) ((ge.ev Hv271).pick [0] (by kernel_rfl)) hM283) ?_
      rintro _ wo284 ⟨p280, rfl, he285, hp281, hq282⟩
      refine ⟨_, _, [.box rb [.string (bstr s), ni p280, .bool (nmB true (List.drop p183 s))] 73, .box bk1 [.string (bstr []), .bool false, .int .u64 0, .string (bstr [])] 35, .box bk26 [.string (bstr (wdV false (List.drop k s))), .bool false, .int .u64 0, .string (bstr [])] 35], rfl, he285, by kernel_rfl, fun ac287 En288 Hv289 => ?_⟩
      refine d_k [0,4,5,6,51,52] [] 3 En288 fun ac290 En291 => ?_
      refine f_o ?_
      refine m_s 2 [.box rb [.string (bstr s), ni p280, .bool (nmB true (List.drop p183 s))] 73, .box bk1 [.string (bstr []), .bool false, .int .u64 0, .string (bstr [])] 35, .box bk26 [.string (bstr (wdV false (List.drop k s))), .bool true, .int .u64 0, .string (bstr [])] 35] En291 Hv289 fun ac292 wo293 En294 Hv295 => ?_
      refine d_k [0,4,5,6,51,53] [] 5 En294 fun ac296 En297 => ?_
      refine f_o ?_
      refine m_s 2 [.box rb [.string (bstr s), ni p280, .bool (nmB true (List.drop p183 s))] 73, .box bk1 [.string (bstr []), .bool false, .int .u64 0, .string (bstr [])] 35, .box bk26 [.string (bstr (wdV false (List.drop k s))), .bool true, .int .u64 ((UInt64.toNat (numV true (List.drop p183 s)) : Nat) : Int), .string (bstr [])] 35] En297 Hv295 fun ac298 wo299 En300 Hv301 => ?_
      refine f_e ?_
      refine then_normal ?_
      refine wp_seq ?_
      refine region_from ?_
      refine f_o ?_
      refine m_a 2 0 4 [.string (bstr (wdV false (List.drop k s))), .bool true, .int .u64 ((UInt64.toNat (numV true (List.drop p183 s)) : Nat) : Int), .string (bstr [])] En300 Hv301 rfl rfl rfl fun ac302 En303 => ?_
      refine f_o ?_
      refine m_g 1 0 4 [.string (bstr (wdV false (List.drop k s))), .bool true, .int .u64 ((UInt64.toNat (numV true (List.drop p183 s)) : Nat) : Int), .string (bstr [])] [.string (bstr (wdV false (List.drop k s))), .bool true, .int .u64 ((UInt64.toNat (numV true (List.drop p183 s)) : Nat) : Int), .string (bstr [])] [.box rb [.string (bstr s), ni p280, .bool (nmB true (List.drop p183 s))] 73, .box bk1 [.string (bstr (wdV false (List.drop k s))), .bool true, .int .u64 ((UInt64.toNat (numV true (List.drop p183 s)) : Nat) : Int), .string (bstr [])] 35, .box bk26 [.string (bstr (wdV false (List.drop k s))), .bool true, .int .u64 ((UInt64.toNat (numV true (List.drop p183 s)) : Nat) : Int), .string (bstr [])] 35] En303 Hv301 rfl rfl (by simp) (one_all (by kernel_rfl)) rfl rfl fun ac304 wo305 En306 Hv307 => ?_
      refine f_e ?_
      refine then_normal ?_
      refine wp_ret ?_
      refine d_cell1 (v := .agg #[.string (bstr (wdV false (List.drop k s))), .bool true, .int .u64 ((UInt64.toNat (numV true (List.drop p183 s)) : Nat) : Int), .string (bstr [])]) (t := 4) (T := 35) (ad := ⟨bk1, 0, none⟩) En306 (by kernel_rfl) (by kernel_rfl) (Ev.cellAgg (t := 35) (k := 1) (off := 0) (m := 4) (xs := [.string (bstr (wdV false (List.drop k s))), .bool true, .int .u64 ((UInt64.toNat (numV true (List.drop p183 s)) : Nat) : Int), .string (bstr [])]) Hv307 rfl rfl rfl (by kernel_rfl) (by kernel_rfl)) ?_
      have hno : false = true ∨ rdPr xs s k = none := by first | exact .inl rfl | exact .inr (pr_w hbw) | exact .inr (pr_e hbw ⟨by omega, by assumption⟩ hbt) | exact .inr (pr_k hbw (fun g => by first | omega | exact absurd g.2 (by assumption)))
      rw [prB_n hno]
      refine ⟨p280, (wdV false (List.drop k s), true, numV true (List.drop p183 s), [], ()), rfl, Hv307.pick [0] (by kernel_rfl) (by decide), (by omega), ⟨by simp only [txV, rds_t, Option.map_none, Option.getD_none, List.length_nil]; omega, by simp only [txV, rds_t, Option.map_none, Option.getD_none, List.length_nil]; omega⟩, (fun z hz h => ?_)⟩
      rcases hno with hno | hno
      ·
       first | (cases hz; done) | (cases hno; done)
      ·
       rw [hno] at h; cases h
  | true =>
   have Hv308 : Ev w [.box rb [.string (bstr s), ni k, .bool false] 73] wo32 [.box rb [.string (bstr s), ni p14, .bool true] 73, .box bk1 [.string (bstr []), .bool false, .int .u64 0, .string (bstr [])] 35, .box bk26 [.string (bstr (wdV false (List.drop k s))), .bool false, .int .u64 0, .string (bstr [])] 35] := by have h := Hv34; rw [hbw] at h; exact h
   have hrl := run_le (List.drop k s)
   have hdl0 : List.length (List.drop k s) = List.length s - k := List.length_drop
   have hzl := il.small
   have hkl := wdV_len false (List.drop k s)
   have hkl1 := wdV_len true (List.drop k s)
   refine region_from ?_
   refine d_k [0,1,4,5,6,16] [] 3 En33 fun ac309 En310 => ?_
   refine f_o ?_
   refine m_l 0 En310 Hv308 fun ac311 En312 => ?_
   refine d_e [0,4,5,6,30] [] En312 fun ac313 En314 => ?_
   refine then_normal ?_
   refine c_f En314 ?_
   refine wp_skip ?_
   refine then_normal ?_
   refine wp_seq ?_
   refine region_from ?_
   refine d_k [0,4,5,6,34] [] 1 En314 fun ac315 En316 => ?_
   refine f_o ?_
   refine c_l [0] (M := [.box rb [.string (bstr s), ni p14, .bool true] 73]) En316 Hv308 (fun hM320 => take_go _ rb s [61] p14 true hs (by omega) hM320) ?_
   rintro _ wo321 ⟨p317, rfl, he322, hp318, hq319⟩
   refine ⟨_, _, [.box rb [.string (bstr s), ni p317, .bool (tkB true [61] (List.drop p14 s))] 73, .box bk1 [.string (bstr []), .bool false, .int .u64 0, .string (bstr [])] 35, .box bk26 [.string (bstr (wdV false (List.drop k s))), .bool false, .int .u64 0, .string (bstr [])] 35], rfl, he322, by kernel_rfl, fun ac324 En325 Hv326 => ?_⟩
   refine f_e ?_
   refine then_normal ?_
   refine wp_seq ?_
   refine wp_seq ?_
   have Hv327 : Ev w [.box rb [.string (bstr s), ni k, .bool false] 73] wo321 [.box rb [.string (bstr s), ni p317, .bool true] 73, .box bk1 [.string (bstr []), .bool false, .int .u64 0, .string (bstr [])] 35, .box bk26 [.string (bstr (wdV false (List.drop k s))), .bool false, .int .u64 0, .string (bstr [])] 35] := by have h := Hv326; skip; exact h
   refine region_from ?_
   refine d_k [0,4,5,6,38] [] 3 En325 fun ac328 En329 => ?_
   refine f_o ?_
   refine m_l 0 En329 Hv327 fun ac330 En331 => ?_
   refine d_e [0,4,5,6,45] [] En331 fun ac332 En333 => ?_
   refine then_normal ?_
   refine c_f En333 ?_
   refine wp_skip ?_
   refine then_normal ?_
   refine wp_seq ?_
   refine region_from ?_
   refine d_k [0,4,5,6,50] [] 1 En333 fun ac334 En335 => ?_
   refine f_o ?_
   refine c_l [0] (M := [.box rb [.string (bstr s), ni p317, .bool true] 73]) En335 Hv327 (fun hM339 => number_go _ rb s p317 true hs (by omega) ((ge.ev Hv327).pick [0] (by kernel_rfl)) hM339) ?_
   rintro _ wo340 ⟨p336, rfl, he341, hp337, hq338⟩
   refine ⟨_, _, [.box rb [.string (bstr s), ni p336, .bool (nmB true (List.drop p317 s))] 73, .box bk1 [.string (bstr []), .bool false, .int .u64 0, .string (bstr [])] 35, .box bk26 [.string (bstr (wdV false (List.drop k s))), .bool false, .int .u64 0, .string (bstr [])] 35], rfl, he341, by kernel_rfl, fun ac343 En344 Hv345 => ?_⟩
   refine d_k [0,4,5,6,51,52] [] 3 En344 fun ac346 En347 => ?_
   refine f_o ?_
   refine m_s 2 [.box rb [.string (bstr s), ni p336, .bool (nmB true (List.drop p317 s))] 73, .box bk1 [.string (bstr []), .bool false, .int .u64 0, .string (bstr [])] 35, .box bk26 [.string (bstr (wdV false (List.drop k s))), .bool true, .int .u64 0, .string (bstr [])] 35] En347 Hv345 fun ac348 wo349 En350 Hv351 => ?_
   refine d_k [0,4,5,6,51,53] [] 5 En350 fun ac352 En353 => ?_
   refine f_o ?_
   refine m_s 2 [.box rb [.string (bstr s), ni p336, .bool (nmB true (List.drop p317 s))] 73, .box bk1 [.string (bstr []), .bool false, .int .u64 0, .string (bstr [])] 35, .box bk26 [.string (bstr (wdV false (List.drop k s))), .bool true, .int .u64 ((UInt64.toNat (numV true (List.drop p317 s)) : Nat) : Int), .string (bstr [])] 35] En353 Hv351 fun ac354 wo355 En356 Hv357 => ?_
   refine f_e ?_
   refine then_normal ?_
   refine wp_seq ?_
   refine region_from ?_
   refine f_o ?_
   refine m_a 2 0 4 [.string (bstr (wdV false (List.drop k s))), .bool true, .int .u64 ((UInt64.toNat (numV true (List.drop p317 s)) : Nat) : Int), .string (bstr [])] En356 Hv357 rfl rfl rfl fun ac358 En359 => ?_
   refine f_o ?_
   refine m_g 1 0 4 [.string (bstr (wdV false (List.drop k s))), .bool true, .int .u64 ((UInt64.toNat (numV true (List.drop p317 s)) : Nat) : Int), .string (bstr [])] [.string (bstr (wdV false (List.drop k s))), .bool true, .int .u64 ((UInt64.toNat (numV true (List.drop p317 s)) : Nat) : Int), .string (bstr [])] [.box rb [.string (bstr s), ni p336, .bool (nmB true (List.drop p317 s))] 73, .box bk1 [.string (bstr (wdV false (List.drop k s))), .bool true, .int .u64 ((UInt64.toNat (numV true (List.drop p317 s)) : Nat) : Int), .string (bstr [])] 35, .box bk26 [.string (bstr (wdV false (List.drop k s))), .bool true, .int .u64 ((UInt64.toNat (numV true (List.drop p317 s)) : Nat) : Int), .string (bstr [])] 35] En359 Hv357 rfl rfl (by simp) (one_all (by kernel_rfl)) rfl rfl fun ac360 wo361 En362 Hv363 => ?_
   refine f_e ?_
   refine then_normal ?_
   refine wp_ret ?_
   refine d_cell1 (v := .agg #[.string (bstr (wdV false (List.drop k s))), .bool true, .int .u64 ((UInt64.toNat (numV true (List.drop p317 s)) : Nat) : Int), .string (bstr [])]) (t := 4) (T := 35) (ad := ⟨bk1, 0, none⟩) En362 (by kernel_rfl) (by kernel_rfl) (Ev.cellAgg (t := 35) (k := 1) (off := 0) (m := 4) (xs := [.string (bstr (wdV false (List.drop k s))), .bool true, .int .u64 ((UInt64.toNat (numV true (List.drop p317 s)) : Nat) : Int), .string (bstr [])]) Hv363 rfl rfl rfl (by kernel_rfl) (by kernel_rfl)) ?_
   have hno : false = true ∨ rdPr xs s k = none := by first | exact .inl rfl | exact .inr (pr_w hbw) | exact .inr (pr_e hbw ⟨by omega, by assumption⟩ hbt) | exact .inr (pr_k hbw (fun g => by first | omega | exact absurd g.2 (by assumption)))
   rw [prB_n hno]
   refine ⟨p336, (wdV false (List.drop k s), true, numV true (List.drop p317 s), [], ()), rfl, Hv363.pick [0] (by kernel_rfl) (by decide), (by omega), ⟨by simp only [txV, rds_t, Option.map_none, Option.getD_none, List.length_nil]; omega, by simp only [txV, rds_t, Option.map_none, Option.getD_none, List.length_nil]; omega⟩, (fun z hz h => ?_)⟩
   rcases hno with hno | hno
   ·
    first | (cases hz; done) | (cases hno; done)
   ·
    rw [hno] at h; cases h
 | true =>
  refine region_from ?_
  refine d_k [0,1,4,9] [] 3 En4 fun ac364 En365 => ?_
  refine f_o ?_
  refine m_l 0 En365 Hv5 fun ac366 En367 => ?_
  refine d_e [0,1,4,5] [] En367 fun ac368 En369 => ?_
  refine then_normal ?_
  refine wp_seq ?_
  refine region_from ?_
  refine d_k [0,1,4,5,11] [] 1 En369 fun ac370 En371 => ?_
  refine f_o ?_
  refine c_l [0] (M := [.box rb [.string (bstr s), ni k, .bool true] 73]) En371 Hv5 (fun hM375 => word_go2 _ rb s k true hs (by omega) hM375) ?_
  rintro _ wo376 ⟨p372, rfl, he377, hp373, hq374⟩
  refine ⟨_, _, [.box rb [.string (bstr s), ni p372, .bool (wdB true (List.drop k s))] 73, .box bk1 [.string (bstr []), .bool false, .int .u64 0, .string (bstr [])] 35], rfl, he377, by kernel_rfl, fun ac379 En380 Hv381 => ?_⟩
  refine d_k [0,1,4,5,13] [] 3 En380 fun ac382 En383 => ?_
  refine f_o ?_
  refine m_z 35 [.string (bstr []), .bool false, .int .u64 0, .string (bstr [])] En383 Hv381 fun ac385 wo386 bk384 En387 Hv388 => ?_
  refine f_o ?_
  refine m_g 2 0 4 [.string (bstr (wdV true (List.drop k s))), .bool false, .int .u64 0, .string (bstr [])] [.string (bstr (wdV true (List.drop k s))), .bool false, .int .u64 0, .string (bstr [])] [.box rb [.string (bstr s), ni p372, .bool (wdB true (List.drop k s))] 73, .box bk1 [.string (bstr []), .bool false, .int .u64 0, .string (bstr [])] 35, .box bk384 [.string (bstr (wdV true (List.drop k s))), .bool false, .int .u64 0, .string (bstr [])] 35] En387 Hv388 rfl rfl (by simp) (one_all (by kernel_rfl)) rfl rfl fun ac389 wo390 En391 Hv392 => ?_
  refine f_e ?_
  refine then_normal ?_
  refine wp_seq ?_
  refine wp_seq ?_
  have hrl := run_le (List.drop k s)
  have hdl0 : List.length (List.drop k s) = List.length s - k := List.length_drop
  have hzl := il.small
  have hkl := wdV_len false (List.drop k s)
  have hkl1 := wdV_len true (List.drop k s)
  have Hv393 : Ev w [.box rb [.string (bstr s), ni k, .bool true] 73] wo390 [.box rb [.string (bstr s), ni p372, .bool true] 73, .box bk1 [.string (bstr []), .bool false, .int .u64 0, .string (bstr [])] 35, .box bk384 [.string (bstr (wdV true (List.drop k s))), .bool false, .int .u64 0, .string (bstr [])] 35] := by have h := Hv392; skip; exact h
  refine region_from ?_
  refine d_k [0,1,4,5,6,16] [] 3 En391 fun ac394 En395 => ?_
  refine f_o ?_
  refine m_l 0 En395 Hv393 fun ac396 En397 => ?_
  refine d_e [0,4,5,6,30] [] En397 fun ac398 En399 => ?_
  refine then_normal ?_
  refine c_f En399 ?_
  refine wp_skip ?_
  refine then_normal ?_
  refine wp_seq ?_
  refine region_from ?_
  refine d_k [0,4,5,6,34] [] 1 En399 fun ac400 En401 => ?_
  refine f_o ?_
  refine c_l [0] (M := [.box rb [.string (bstr s), ni p372, .bool true] 73]) En401 Hv393 (fun hM405 => take_go _ rb s [61] p372 true hs (by omega) hM405) ?_
  rintro _ wo406 ⟨p402, rfl, he407, hp403, hq404⟩
  refine ⟨_, _, [.box rb [.string (bstr s), ni p402, .bool (tkB true [61] (List.drop p372 s))] 73, .box bk1 [.string (bstr []), .bool false, .int .u64 0, .string (bstr [])] 35, .box bk384 [.string (bstr (wdV true (List.drop k s))), .bool false, .int .u64 0, .string (bstr [])] 35], rfl, he407, by kernel_rfl, fun ac409 En410 Hv411 => ?_⟩
  refine f_e ?_
  refine then_normal ?_
  refine wp_seq ?_
  refine wp_seq ?_
  have Hv412 : Ev w [.box rb [.string (bstr s), ni k, .bool true] 73] wo406 [.box rb [.string (bstr s), ni p402, .bool true] 73, .box bk1 [.string (bstr []), .bool false, .int .u64 0, .string (bstr [])] 35, .box bk384 [.string (bstr (wdV true (List.drop k s))), .bool false, .int .u64 0, .string (bstr [])] 35] := by have h := Hv411; skip; exact h
  refine region_from ?_
  refine d_k [0,4,5,6,38] [] 3 En410 fun ac413 En414 => ?_
  refine f_o ?_
  refine m_l 0 En414 Hv412 fun ac415 En416 => ?_
  refine d_e [0,4,5,6,45] [] En416 fun ac417 En418 => ?_
  refine then_normal ?_
  refine c_f En418 ?_
  refine wp_skip ?_
  refine then_normal ?_
  refine wp_seq ?_
  refine region_from ?_
  refine d_k [0,4,5,6,50] [] 1 En418 fun ac419 En420 => ?_
  refine f_o ?_
  refine c_l [0] (M := [.box rb [.string (bstr s), ni p402, .bool true] 73]) En420 Hv412 (fun hM424 => number_go _ rb s p402 true hs (by omega) ((ge.ev Hv412).pick [0] (by kernel_rfl)) hM424) ?_
  rintro _ wo425 ⟨p421, rfl, he426, hp422, hq423⟩
  refine ⟨_, _, [.box rb [.string (bstr s), ni p421, .bool (nmB true (List.drop p402 s))] 73, .box bk1 [.string (bstr []), .bool false, .int .u64 0, .string (bstr [])] 35, .box bk384 [.string (bstr (wdV true (List.drop k s))), .bool false, .int .u64 0, .string (bstr [])] 35], rfl, he426, by kernel_rfl, fun ac428 En429 Hv430 => ?_⟩
  refine d_k [0,4,5,6,51,52] [] 3 En429 fun ac431 En432 => ?_
  refine f_o ?_
  refine m_s 2 [.box rb [.string (bstr s), ni p421, .bool (nmB true (List.drop p402 s))] 73, .box bk1 [.string (bstr []), .bool false, .int .u64 0, .string (bstr [])] 35, .box bk384 [.string (bstr (wdV true (List.drop k s))), .bool true, .int .u64 0, .string (bstr [])] 35] En432 Hv430 fun ac433 wo434 En435 Hv436 => ?_
  refine d_k [0,4,5,6,51,53] [] 5 En435 fun ac437 En438 => ?_
  refine f_o ?_
  refine m_s 2 [.box rb [.string (bstr s), ni p421, .bool (nmB true (List.drop p402 s))] 73, .box bk1 [.string (bstr []), .bool false, .int .u64 0, .string (bstr [])] 35, .box bk384 [.string (bstr (wdV true (List.drop k s))), .bool true, .int .u64 ((UInt64.toNat (numV true (List.drop p402 s)) : Nat) : Int), .string (bstr [])] 35] En438 Hv436 fun ac439 wo440 En441 Hv442 => ?_
  refine f_e ?_
  refine then_normal ?_
  refine wp_seq ?_
  refine region_from ?_
  refine f_o ?_
  refine m_a 2 0 4 [.string (bstr (wdV true (List.drop k s))), .bool true, .int .u64 ((UInt64.toNat (numV true (List.drop p402 s)) : Nat) : Int), .string (bstr [])] En441 Hv442 rfl rfl rfl fun ac443 En444 => ?_
  refine f_o ?_
  refine m_g 1 0 4 [.string (bstr (wdV true (List.drop k s))), .bool true, .int .u64 ((UInt64.toNat (numV true (List.drop p402 s)) : Nat) : Int), .string (bstr [])] [.string (bstr (wdV true (List.drop k s))), .bool true, .int .u64 ((UInt64.toNat (numV true (List.drop p402 s)) : Nat) : Int), .string (bstr [])] [.box rb [.string (bstr s), ni p421, .bool (nmB true (List.drop p402 s))] 73, .box bk1 [.string (bstr (wdV true (List.drop k s))), .bool true, .int .u64 ((UInt64.toNat (numV true (List.drop p402 s)) : Nat) : Int), .string (bstr [])] 35, .box bk384 [.string (bstr (wdV true (List.drop k s))), .bool true, .int .u64 ((UInt64.toNat (numV true (List.drop p402 s)) : Nat) : Int), .string (bstr [])] 35] En444 Hv442 rfl rfl (by simp) (one_all (by kernel_rfl)) rfl rfl fun ac445 wo446 En447 Hv448 => ?_
  refine f_e ?_
  refine then_normal ?_
  refine wp_ret ?_
  refine d_cell1 (v := .agg #[.string (bstr (wdV true (List.drop k s))), .bool true, .int .u64 ((UInt64.toNat (numV true (List.drop p402 s)) : Nat) : Int), .string (bstr [])]) (t := 4) (T := 35) (ad := ⟨bk1, 0, none⟩) En447 (by kernel_rfl) (by kernel_rfl) (Ev.cellAgg (t := 35) (k := 1) (off := 0) (m := 4) (xs := [.string (bstr (wdV true (List.drop k s))), .bool true, .int .u64 ((UInt64.toNat (numV true (List.drop p402 s)) : Nat) : Int), .string (bstr [])]) Hv448 rfl rfl rfl (by kernel_rfl) (by kernel_rfl)) ?_
  have hno : true = true ∨ rdPr xs s k = none := by first | exact .inl rfl | exact .inr (pr_w hbw) | exact .inr (pr_e hbw ⟨by omega, by assumption⟩ hbt) | exact .inr (pr_k hbw (fun g => by first | omega | exact absurd g.2 (by assumption)))
  rw [prB_n hno]
  refine ⟨p421, (wdV true (List.drop k s), true, numV true (List.drop p402 s), [], ()), rfl, Hv448.pick [0] (by kernel_rfl) (by decide), (by omega), ⟨by simp only [txV, rds_t, Option.map_none, Option.getD_none, List.length_nil]; omega, by simp only [txV, rds_t, Option.map_none, Option.getD_none, List.length_nil]; omega⟩, (fun z hz h => ?_)⟩
  rcases hno with hno | hno
  ·
   first | (cases hz; done) | (cases hno; done)
  ·
   rw [hno] at h; cases h

end Go.Proofs.YtfcfgbejpcmmkaaDoor
