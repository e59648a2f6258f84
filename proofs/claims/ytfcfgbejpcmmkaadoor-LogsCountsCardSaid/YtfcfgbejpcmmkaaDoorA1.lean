/- Layer 3: letters, words. -/
import Derived.Test.YtfcfgbejpcmmkaaDoorShape
import Derived.Test.YtfcfgbejpcmmkaaDoorStab
import Derived.Test.YtfcfgbejpcmmkaaDoorSv
import Derived.Test.YtfcfgbejpcmmkaaDoorIter
import Derived.Test.YtfcfgbejpcmmkaaDoorFu
namespace Go.Proofs.YtfcfgbejpcmmkaaDoor
open Go.Dbr
set_option maxRecDepth 100000
set_option maxHeartbeats 2000000
set_option linter.unusedVariables false
set_option linter.unusedSimpArgs false

abbrev pt (b : Nat) : Value := .pointer (some (Addr.mk b 0 none))
abbrev ni (n : Nat) : Value := .int .i64 (n : Int)
abbrev bv (x : UInt8) : Value := .int .u8 (x.toNat : Int)
abbrev uv64 (x : UInt64) : Value := .int .u64 (x.toNat : Int)
abbrev Bs := List UInt8
/-- may a byte stand in a word? -/
def letB (b : UInt8) : Bool := decide (97 ≤ b.toNat ∧ b.toNat ≤ 122 ∨ 48 ≤ b.toNat ∧ b.toNat ≤ 57 ∨ b.toNat = 45 ∨ b.toNat = 95)
/-- does a byte stand as it is? -/
def plB (b : UInt8) : Bool := decide (32 ≤ b.toNat ∧ b.toNat < 127 ∧ b.toNat ≠ 34 ∧ b.toNat ≠ 92)
/-- a word -/
def wordB (s : Bs) : Bool := decide (1 ≤ s.length ∧ s.length ≤ 32 ∧ 97 ≤ (s.getD 0 0).toNat ∧ (s.getD 0 0).toNat ≤ 122) && s.all letB
/-- how many letters a text begins with -/
def runN (s : Bs) : Nat := (s.takeWhile letB).length
theorem u8_of {a b : UInt8} (h : ((UInt8.toNat a : Nat) : Int) = ((UInt8.toNat b : Nat) : Int)) : a = b := UInt8.toNat_inj.1 (by omega)
theorem all_next {p : UInt8 → Bool} {s : Bs} {i : Nat} (hi : i < s.length) (h : (s.take i).all p = true) (g : p (s.getD i 0) = true) : (s.take (i + 1)).all p = true := by
  rw [List.take_add_one, List.all_append, h, List.getElem?_eq_getElem hi]
  rw [List.getD_eq_getElem?_getD, List.getElem?_eq_getElem hi] at g
  simpa using g
theorem run_end {s : Bs} {i : Nat} (hi : i ≤ s.length) (h : (s.take i).all letB = true) (g : i < s.length → letB (s.getD i 0) = false) : i = runN s := by
  rw [runN]
  induction s generalizing i with
  | nil => simp at hi; simp [hi]
  | cons x r ih =>
    cases i with
    | zero => have := g (by simp); simp at this; simp [this]
    | succ i =>
      simp only [List.take_succ_cons, List.all_cons, Bool.and_eq_true] at h
      rw [List.takeWhile_cons_of_pos h.1, List.length_cons, ← ih (by simpa using hi) h.2 (fun q => by have := g (by simpa using q); simpa using this)]
theorem run_le (s : Bs) : runN s ≤ s.length := by
  rw [runN]
  induction s with
  | nil => simp
  | cons x r ih => rw [List.takeWhile_cons]; split <;> simp <;> omega
theorem run_all (s : Bs) : (runN s = s.length) ↔ s.all letB = true := by
  rw [runN]
  induction s with
  | nil => simp
  | cons x r ih =>
    by_cases h : letB x = true
    · rw [List.takeWhile_cons_of_pos h]; simp [h, ih]
    · rw [List.takeWhile_cons_of_neg h]; simp [h]
theorem ne0b (s : Bs) : (!(s == [])) = decide (0 < s.length) := by cases s <;> rfl
theorem w_y {s : Bs} (h : 1 ≤ s.length ∧ s.length ≤ 32 ∧ 97 ≤ (s.getD 0 0).toNat ∧ (s.getD 0 0).toNat ≤ 122) : wordB s = s.all letB := by rw [wordB, decide_eq_true h, Bool.true_and]
theorem w_n {s : Bs} (h : ¬ (1 ≤ s.length ∧ s.length ≤ 32 ∧ 97 ≤ (s.getD 0 0).toNat ∧ (s.getD 0 0).toNat ≤ 122)) : wordB s = false := by rw [wordB, decide_eq_false h, Bool.false_and]
theorem w_r {s : Bs} (h : 1 ≤ s.length ∧ s.length ≤ 32 ∧ 97 ≤ (s.getD 0 0).toNat ∧ (s.getD 0 0).toNat ≤ 122) : wordB s = decide (runN s = s.length) := by
  rw [w_y h]
  by_cases g : s.all letB = true
  · rw [g, decide_eq_true ((run_all s).2 g)]
  · rw [decide_eq_false (fun q => g ((run_all s).1 q))]; simpa using g
theorem w_bad {s : Bs} {i : Nat} (hi : i < s.length) (g : letB (s.getD i 0) = false) : wordB s = false := by
  have : s.all letB = false := by
    rw [List.all_eq_false]
    refine ⟨s.getD i 0, ?_, by rw [g]; decide⟩
    rw [List.getD_eq_getElem?_getD, List.getElem?_eq_getElem hi]
    exact List.getElem_mem hi
  rw [wordB, this, Bool.and_false]
theorem word_len {s : Bs} (h : wordB s = true) : 1 ≤ s.length ∧ s.length ≤ 32 := by
  rw [wordB, Bool.and_eq_true, decide_eq_true_eq] at h
  omega

theorem letter_go (w : World) (c : UInt8) : Calls Tryd.prog 54 #[bv c] w fun e w' => e = .returned (.bool (letB c)) ∧ Ev w [] w' [] := by
 refine d_0 [(0, bv c)] 25 Go.Proofs.Tryd.func54 Go.Proofs.Tryd.ntmps54 (Heap.nil _) fun act0 En0 Hv0 => ?_
 refine d_s [0,2] [] En0 fun ac1 En2 => ?_
 refine wp_seq ?_
 refine region_from ?_
 refine d_k [0,2,5] [] 3 En2 fun ac3 En4 => ?_
 rcases Bool.eq_false_or_eq_true (decide (((UInt8.toNat c : Nat) : Int) ≥ (97 : Int))) with hb5 | hb5
 ·
  have En6 := En4.fx (t := 5) (congrArg Value.bool hb5)
  have hp7 : ((UInt8.toNat c : Nat) : Int) ≥ (97 : Int) := of_decide_eq_true hb5
  refine d_k [0,2,9] [] 7 En6 fun ac8 En9 => ?_
  rcases Bool.eq_false_or_eq_true (decide (((UInt8.toNat c : Nat) : Int) ≤ (122 : Int))) with hb10 | hb10
  ·
   have En11 := En9.fx (t := 9) (congrArg Value.bool hb10)
   have hp12 : ((UInt8.toNat c : Nat) : Int) ≤ (122 : Int) := of_decide_eq_true hb10
   refine d_e [2] [] En11 fun ac13 En14 => ?_
   refine then_normal ?_
   refine wp_ret ?_
   refine d_ret1 (t := 2) (v := .bool true) En14 (by kernel_rfl) (by kernel_rfl) ?_
   refine ⟨congrArg (fun z => Ending.returned (Value.bool z)) ?_, Hv0.pick [] (by kernel_rfl) (by decide)⟩
   exact (decide_eq_true (by omega)).symm
  ·
   have En15 := En9.fx (t := 9) (congrArg Value.bool hb10)
   have hp16 : ¬ (((UInt8.toNat c : Nat) : Int) ≤ (122 : Int)) := of_decide_eq_false hb10
   refine d_k [0,2,9,12] [] 10 En15 fun ac17 En18 => ?_
   rcases Bool.eq_false_or_eq_true (decide (((UInt8.toNat c : Nat) : Int) ≥ (48 : Int))) with hb19 | hb19
   ·
    have En20 := En18.fx (t := 12) (congrArg Value.bool hb19)
    have hp21 : ((UInt8.toNat c : Nat) : Int) ≥ (48 : Int) := of_decide_eq_true hb19
    refine d_k [0,2,17] [] 15 En20 fun ac22 En23 => ?_
    rcases Bool.eq_false_or_eq_true (decide (((UInt8.toNat c : Nat) : Int) ≤ (57 : Int))) with hb24 | hb24
    ·
     have En25 := En23.fx (t := 17) (congrArg Value.bool hb24)
     have hp26 : ((UInt8.toNat c : Nat) : Int) ≤ (57 : Int) := of_decide_eq_true hb24
     refine d_e [2] [] En25 fun ac27 En28 => ?_
     refine then_normal ?_
     refine wp_ret ?_
     refine d_ret1 (t := 2) (v := .bool true) En28 (by kernel_rfl) (by kernel_rfl) ?_
     refine ⟨congrArg (fun z => Ending.returned (Value.bool z)) ?_, Hv0.pick [] (by kernel_rfl) (by decide)⟩
     exact (decide_eq_true (by omega)).symm
    ·
     have En29 := En23.fx (t := 17) (congrArg Value.bool hb24)
     have hp30 : ¬ (((UInt8.toNat c : Nat) : Int) ≤ (57 : Int)) := of_decide_eq_false hb24
     refine d_k [0,2,21] [] 19 En29 fun ac31 En32 => ?_
     rcases Bool.eq_false_or_eq_true (((UInt8.toNat c : Nat) : Int) == (45 : Int)) with hb33 | hb33
     ·
      have En34 := En32.fx (t := 21) (congrArg Value.bool hb33)
      have hp35 : ((UInt8.toNat c : Nat) : Int) = (45 : Int) := eq_of_beq hb33
      refine d_e [2] [] En34 fun ac36 En37 => ?_
      refine then_normal ?_
      refine wp_ret ?_
      refine d_ret1 (t := 2) (v := .bool true) En37 (by kernel_rfl) (by kernel_rfl) ?_
      refine ⟨congrArg (fun z => Ending.returned (Value.bool z)) ?_, Hv0.pick [] (by kernel_rfl) (by decide)⟩
      exact (decide_eq_true (by omega)).symm
     ·
      have En38 := En32.fx (t := 21) (congrArg Value.bool hb33)
      have hp39 : ¬ (((UInt8.toNat c : Nat) : Int) = (45 : Int)) := ne_of_beq_false hb33
      refine d_e [2] [] En38 fun ac40 En41 => ?_
      refine then_normal ?_
      refine wp_ret ?_
      refine d_ret1 (t := 2) (v := .bool (((UInt8.toNat c : Nat) : Int) == (95 : Int))) En41 (by kernel_rfl) (by kernel_rfl) ?_
      refine ⟨congrArg (fun z => Ending.returned (Value.bool z)) ?_, Hv0.pick [] (by kernel_rfl) (by decide)⟩
      exact by unfold letB; first | (rw [Bool.eq_iff_iff]; simp only [decide_eq_true_eq, beq_iff_eq, bne_iff_ne, ne_eq]; omega) | (simp; omega)
   ·
    have En42 := En18.fx (t := 12) (congrArg Value.bool hb19)
    have hp43 : ¬ (((UInt8.toNat c : Nat) : Int) ≥ (48 : Int)) := of_decide_eq_false hb19
    refine d_k [0,2,21] [] 19 En42 fun ac44 En45 => ?_
    rcases Bool.eq_false_or_eq_true (((UInt8.toNat c : Nat) : Int) == (45 : Int)) with hb46 | hb46
    ·
     have En47 := En45.fx (t := 21) (congrArg Value.bool hb46)
     have hp48 : ((UInt8.toNat c : Nat) : Int) = (45 : Int) := eq_of_beq hb46
     refine d_e [2] [] En47 fun ac49 En50 => ?_
     refine then_normal ?_
     refine wp_ret ?_
     refine d_ret1 (t := 2) (v := .bool true) En50 (by kernel_rfl) (by kernel_rfl) ?_
     refine ⟨congrArg (fun z => Ending.returned (Value.bool z)) ?_, Hv0.pick [] (by kernel_rfl) (by decide)⟩
     exact (decide_eq_true (by omega)).symm
    ·
     have En51 := En45.fx (t := 21) (congrArg Value.bool hb46)
     have hp52 : ¬ (((UInt8.toNat c : Nat) : Int) = (45 : Int)) := ne_of_beq_false hb46
     refine d_e [2] [] En51 fun ac53 En54 => ?_
     refine then_normal ?_
     refine wp_ret ?_
     refine d_ret1 (t := 2) (v := .bool (((UInt8.toNat c : Nat) : Int) == (95 : Int))) En54 (by kernel_rfl) (by kernel_rfl) ?_
     refine ⟨congrArg (fun z => Ending.returned (Value.bool z)) ?_, Hv0.pick [] (by kernel_rfl) (by decide)⟩
     exact by unfold letB; first | (rw [Bool.eq_iff_iff]; simp only [decide_eq_true_eq, beq_iff_eq, bne_iff_ne, ne_eq]; omega) | (simp; omega)
 ·
  have En55 := En4.fx (t := 5) (congrArg Value.bool hb5)
  have hp56 : ¬ (((UInt8.toNat c : Nat) : Int) ≥ (97 : Int)) := of_decide_eq_false hb5
  refine d_k [0,2,9,12] [] 10 En55 fun ac57 En58 => ?_
  rcases Bool.eq_false_or_eq_true (decide (((UInt8.toNat c : Nat) : Int) ≥ (48 : Int))) with hb59 | hb59
  ·
   have En60 := En58.fx (t := 12) (congrArg Value.bool hb59)
   have hp61 : ((UInt8.toNat c : Nat) : Int) ≥ (48 : Int) := of_decide_eq_true hb59
   refine d_k [0,2,17] [] 15 En60 fun ac62 En63 => ?_
   rcases Bool.eq_false_or_eq_true (decide (((UInt8.toNat c : Nat) : Int) ≤ (57 : Int))) with hb64 | hb64
   ·
    have En65 := En63.fx (t := 17) (congrArg Value.bool hb64)
    have hp66 : ((UInt8.toNat c : Nat) : Int) ≤ (57 : Int) := of_decide_eq_true hb64
    refine d_e [2] [] En65 fun ac67 En68 => ?_
    refine then_normal ?_
    refine wp_ret ?_
    refine d_ret1 (t := 2) (v := .bool true) En68 (by kernel_rfl) (by kernel_rfl) ?_
    refine ⟨congrArg (fun z => Ending.returned (Value.bool z)) ?_, Hv0.pick [] (by kernel_rfl) (by decide)⟩
    exact (decide_eq_true (by omega)).symm
   ·
    have En69 := En63.fx (t := 17) (congrArg Value.bool hb64)
    have hp70 : ¬ (((UInt8.toNat c : Nat) : Int) ≤ (57 : Int)) := of_decide_eq_false hb64
    refine d_k [0,2,21] [] 19 En69 fun ac71 En72 => ?_
    rcases Bool.eq_false_or_eq_true (((UInt8.toNat c : Nat) : Int) == (45 : Int)) with hb73 | hb73
    ·
     have En74 := En72.fx (t := 21) (congrArg Value.bool hb73)
     have hp75 : ((UInt8.toNat c : Nat) : Int) = (45 : Int) := eq_of_beq hb73
     refine d_e [2] [] En74 fun ac76 En77 => ?_
     refine then_normal ?_
     refine wp_ret ?_
     refine d_ret1 (t := 2) (v := .bool true) En77 (by kernel_rfl) (by kernel_rfl) ?_
     refine ⟨congrArg (fun z => Ending.returned (Value.bool z)) ?_, Hv0.pick [] (by kernel_rfl) (by decide)⟩
     exact (decide_eq_true (by omega)).symm
    ·
     have En78 := En72.fx (t := 21) (congrArg Value.bool hb73)
     have hp79 : ¬ (((UInt8.toNat c : Nat) : Int) = (45 : Int)) := ne_of_beq_false hb73
     refine d_e [2] [] En78 fun ac80 En81 => ?_
     refine then_normal ?_
     refine wp_ret ?_
     refine d_ret1 (t := 2) (v := .bool (((UInt8.toNat c : Nat) : Int) == (95 : Int))) En81 (by kernel_rfl) (by kernel_rfl) ?_
     refine ⟨congrArg (fun z => Ending.returned (Value.bool z)) ?_, Hv0.pick [] (by kernel_rfl) (by decide)⟩
     exact by unfold letB; first | (rw [Bool.eq_iff_iff]; simp only [decide_eq_true_eq, beq_iff_eq, bne_iff_ne, ne_eq]; omega) | (simp; omega)
  ·
   have En82 := En58.fx (t := 12) (congrArg Value.bool hb59)
   have hp83 : ¬ (((UInt8.toNat c : Nat) : Int) ≥ (48 : Int)) := of_decide_eq_false hb59
   refine d_k [0,2,21] [] 19 En82 fun ac84 En85 => ?_
   rcases Bool.eq_false_or_eq_true (((UInt8.toNat c : Nat) : Int) == (45 : Int)) with hb86 | hb86
   ·
    have En87 := En85.fx (t := 21) (congrArg Value.bool hb86)
    have hp88 : ((UInt8.toNat c : Nat) : Int) = (45 : Int) := eq_of_beq hb86
    refine d_e [2] [] En87 fun ac89 En90 => ?_
    refine then_normal ?_
    refine wp_ret ?_
    refine d_ret1 (t := 2) (v := .bool true) En90 (by kernel_rfl) (by kernel_rfl) ?_
    refine ⟨congrArg (fun z => Ending.returned (Value.bool z)) ?_, Hv0.pick [] (by kernel_rfl) (by decide)⟩
    exact (decide_eq_true (by omega)).symm
   ·
    have En91 := En85.fx (t := 21) (congrArg Value.bool hb86)
    have hp92 : ¬ (((UInt8.toNat c : Nat) : Int) = (45 : Int)) := ne_of_beq_false hb86
    refine d_e [2] [] En91 fun ac93 En94 => ?_
    refine then_normal ?_
    refine wp_ret ?_
    refine d_ret1 (t := 2) (v := .bool (((UInt8.toNat c : Nat) : Int) == (95 : Int))) En94 (by kernel_rfl) (by kernel_rfl) ?_
    refine ⟨congrArg (fun z => Ending.returned (Value.bool z)) ?_, Hv0.pick [] (by kernel_rfl) (by decide)⟩
    exact by unfold letB; first | (rw [Bool.eq_iff_iff]; simp only [decide_eq_true_eq, beq_iff_eq, bne_iff_ne, ne_eq]; omega) | (simp; omega)

theorem plain_go (w : World) (c : UInt8) : Calls Tryd.prog 42 #[bv c] w fun e w' => e = .returned (.bool (plB c)) ∧ Ev w [] w' [] := by
 refine d_0 [(0, bv c)] 17 Go.Proofs.Tryd.func42 Go.Proofs.Tryd.ntmps42 (Heap.nil _) fun act0 En0 Hv0 => ?_
 refine d_s [0,2] [] En0 fun ac1 En2 => ?_
 refine wp_seq ?_
 refine region_from ?_
 refine d_k [0,2,5] [] 3 En2 fun ac3 En4 => ?_
 rcases Bool.eq_false_or_eq_true (decide (((UInt8.toNat c : Nat) : Int) ≥ (32 : Int))) with hb5 | hb5
 ·
  have En6 := En4.fx (t := 5) (congrArg Value.bool hb5)
  have hp7 : ((UInt8.toNat c : Nat) : Int) ≥ (32 : Int) := of_decide_eq_true hb5
  refine d_k [0,2,9] [] 7 En6 fun ac8 En9 => ?_
  rcases Bool.eq_false_or_eq_true (decide (((UInt8.toNat c : Nat) : Int) < (127 : Int))) with hb10 | hb10
  ·
   have En11 := En9.fx (t := 9) (congrArg Value.bool hb10)
   have hp12 : ((UInt8.toNat c : Nat) : Int) < (127 : Int) := of_decide_eq_true hb10
   refine d_k [0,2,13] [] 11 En11 fun ac13 En14 => ?_
   rcases Bool.eq_false_or_eq_true (((UInt8.toNat c : Nat) : Int) != (34 : Int)) with hb15 | hb15
   ·
    have En16 := En14.fx (t := 13) (congrArg Value.bool hb15)
    have hp17 : ¬ (((UInt8.toNat c : Nat) : Int) = (34 : Int)) := by simpa using hb15
    refine d_e [2] [] En16 fun ac18 En19 => ?_
    refine then_normal ?_
    refine wp_ret ?_
    refine d_ret1 (t := 2) (v := .bool (((UInt8.toNat c : Nat) : Int) != (92 : Int))) En19 (by kernel_rfl) (by kernel_rfl) ?_
    refine ⟨congrArg (fun z => Ending.returned (Value.bool z)) ?_, Hv0.pick [] (by kernel_rfl) (by decide)⟩
    exact by unfold plB; first | (rw [Bool.eq_iff_iff]; simp only [decide_eq_true_eq, beq_iff_eq, bne_iff_ne, ne_eq]; omega) | (simp; omega)
   ·
    have En20 := En14.fx (t := 13) (congrArg Value.bool hb15)
    have hp21 : ((UInt8.toNat c : Nat) : Int) = (34 : Int) := by simpa using hb15
    refine d_e [2] [] En20 fun ac22 En23 => ?_
    refine then_normal ?_
    refine wp_ret ?_
    refine d_ret1 (t := 2) (v := .bool false) En23 (by kernel_rfl) (by kernel_rfl) ?_
    refine ⟨congrArg (fun z => Ending.returned (Value.bool z)) ?_, Hv0.pick [] (by kernel_rfl) (by decide)⟩
    exact (decide_eq_false (by omega)).symm
  ·
   have En24 := En9.fx (t := 9) (congrArg Value.bool hb10)
   have hp25 : ¬ (((UInt8.toNat c : Nat) : Int) < (127 : Int)) := of_decide_eq_false hb10
   refine d_e [2] [] En24 fun ac26 En27 => ?_
   refine then_normal ?_
   refine wp_ret ?_
   refine d_ret1 (t := 2) (v := .bool false) En27 (by kernel_rfl) (by kernel_rfl) ?_
   refine ⟨congrArg (fun z => Ending.returned (Value.bool z)) ?_, Hv0.pick [] (by kernel_rfl) (by decide)⟩
   exact (decide_eq_false (by omega)).symm
 ·
  have En28 := En4.fx (t := 5) (congrArg Value.bool hb5)
  have hp29 : ¬ (((UInt8.toNat c : Nat) : Int) ≥ (32 : Int)) := of_decide_eq_false hb5
  refine d_e [2] [] En28 fun ac30 En31 => ?_
  refine then_normal ?_
  refine wp_ret ?_
  refine d_ret1 (t := 2) (v := .bool false) En31 (by kernel_rfl) (by kernel_rfl) ?_
  refine ⟨congrArg (fun z => Ending.returned (Value.bool z)) ?_, Hv0.pick [] (by kernel_rfl) (by decide)⟩
  exact (decide_eq_false (by omega)).symm

theorem dletter_go (w : World) (c : UInt8) : Calls Tryd.prog 49 #[bv c] w fun e w' => e = .returned (.bool (letB c)) ∧ Ev w [] w' [] := by
 refine d_0 [(0, bv c)] 25 Go.Proofs.Tryd.func49 Go.Proofs.Tryd.ntmps49 (Heap.nil _) fun act0 En0 Hv0 => ?_
 refine d_s [0,2] [] En0 fun ac1 En2 => ?_
 refine wp_seq ?_
 refine region_from ?_
 refine d_k [0,2,5] [] 3 En2 fun ac3 En4 => ?_
 rcases Bool.eq_false_or_eq_true (decide (((UInt8.toNat c : Nat) : Int) ≥ (97 : Int))) with hb5 | hb5
 ·
  have En6 := En4.fx (t := 5) (congrArg Value.bool hb5)
  have hp7 : ((UInt8.toNat c : Nat) : Int) ≥ (97 : Int) := of_decide_eq_true hb5
  refine d_k [0,2,9] [] 7 En6 fun ac8 En9 => ?_
  rcases Bool.eq_false_or_eq_true (decide (((UInt8.toNat c : Nat) : Int) ≤ (122 : Int))) with hb10 | hb10
  ·
   have En11 := En9.fx (t := 9) (congrArg Value.bool hb10)
   have hp12 : ((UInt8.toNat c : Nat) : Int) ≤ (122 : Int) := of_decide_eq_true hb10
   refine d_e [2] [] En11 fun ac13 En14 => ?_
   refine then_normal ?_
   refine wp_ret ?_
   refine d_ret1 (t := 2) (v := .bool true) En14 (by kernel_rfl) (by kernel_rfl) ?_
   refine ⟨congrArg (fun z => Ending.returned (Value.bool z)) ?_, Hv0.pick [] (by kernel_rfl) (by decide)⟩
   exact (decide_eq_true (by omega)).symm
  ·
   have En15 := En9.fx (t := 9) (congrArg Value.bool hb10)
   have hp16 : ¬ (((UInt8.toNat c : Nat) : Int) ≤ (122 : Int)) := of_decide_eq_false hb10
   refine d_k [0,2,9,12] [] 10 En15 fun ac17 En18 => ?_
   rcases Bool.eq_false_or_eq_true (decide (((UInt8.toNat c : Nat) : Int) ≥ (48 : Int))) with hb19 | hb19
   ·
    have En20 := En18.fx (t := 12) (congrArg Value.bool hb19)
    have hp21 : ((UInt8.toNat c : Nat) : Int) ≥ (48 : Int) := of_decide_eq_true hb19
    refine d_k [0,2,17] [] 15 En20 fun ac22 En23 => ?_
    rcases Bool.eq_false_or_eq_true (decide (((UInt8.toNat c : Nat) : Int) ≤ (57 : Int))) with hb24 | hb24
    ·
     have En25 := En23.fx (t := 17) (congrArg Value.bool hb24)
     have hp26 : ((UInt8.toNat c : Nat) : Int) ≤ (57 : Int) := of_decide_eq_true hb24
     refine d_e [2] [] En25 fun ac27 En28 => ?_
     refine then_normal ?_
     refine wp_ret ?_
     refine d_ret1 (t := 2) (v := .bool true) En28 (by kernel_rfl) (by kernel_rfl) ?_
     refine ⟨congrArg (fun z => Ending.returned (Value.bool z)) ?_, Hv0.pick [] (by kernel_rfl) (by decide)⟩
     exact (decide_eq_true (by omega)).symm
    ·
     have En29 := En23.fx (t := 17) (congrArg Value.bool hb24)
     have hp30 : ¬ (((UInt8.toNat c : Nat) : Int) ≤ (57 : Int)) := of_decide_eq_false hb24
     refine d_k [0,2,21] [] 19 En29 fun ac31 En32 => ?_
     rcases Bool.eq_false_or_eq_true (((UInt8.toNat c : Nat) : Int) == (45 : Int)) with hb33 | hb33
     ·
      have En34 := En32.fx (t := 21) (congrArg Value.bool hb33)
      have hp35 : ((UInt8.toNat c : Nat) : Int) = (45 : Int) := eq_of_beq hb33
      refine d_e [2] [] En34 fun ac36 En37 => ?_
      refine then_normal ?_
      refine wp_ret ?_
      refine d_ret1 (t := 2) (v := .bool true) En37 (by kernel_rfl) (by kernel_rfl) ?_
      refine ⟨congrArg (fun z => Ending.returned (Value.bool z)) ?_, Hv0.pick [] (by kernel_rfl) (by decide)⟩
      exact (decide_eq_true (by omega)).symm
     ·
      have En38 := En32.fx (t := 21) (congrArg Value.bool hb33)
      have hp39 : ¬ (((UInt8.toNat c : Nat) : Int) = (45 : Int)) := ne_of_beq_false hb33
      refine d_e [2] [] En38 fun ac40 En41 => ?_
      refine then_normal ?_
      refine wp_ret ?_
      refine d_ret1 (t := 2) (v := .bool (((UInt8.toNat c : Nat) : Int) == (95 : Int))) En41 (by kernel_rfl) (by kernel_rfl) ?_
      refine ⟨congrArg (fun z => Ending.returned (Value.bool z)) ?_, Hv0.pick [] (by kernel_rfl) (by decide)⟩
      exact by unfold letB; first | (rw [Bool.eq_iff_iff]; simp only [decide_eq_true_eq, beq_iff_eq, bne_iff_ne, ne_eq]; omega) | (simp; omega)
   ·
    have En42 := En18.fx (t := 12) (congrArg Value.bool hb19)
    have hp43 : ¬ (((UInt8.toNat c : Nat) : Int) ≥ (48 : Int)) := of_decide_eq_false hb19
    refine d_k [0,2,21] [] 19 En42 fun ac44 En45 => ?_
    rcases Bool.eq_false_or_eq_true (((UInt8.toNat c : Nat) : Int) == (45 : Int)) with hb46 | hb46
    ·
     have En47 := En45.fx (t := 21) (congrArg Value.bool hb46)
     have hp48 : ((UInt8.toNat c : Nat) : Int) = (45 : Int) := eq_of_beq hb46
     refine d_e [2] [] En47 fun ac49 En50 => ?_
     refine then_normal ?_
     refine wp_ret ?_
     refine d_ret1 (t := 2) (v := .bool true) En50 (by kernel_rfl) (by kernel_rfl) ?_
     refine ⟨congrArg (fun z => Ending.returned (Value.bool z)) ?_, Hv0.pick [] (by kernel_rfl) (by decide)⟩
     exact (decide_eq_true (by omega)).symm
    ·
     have En51 := En45.fx (t := 21) (congrArg Value.bool hb46)
     have hp52 : ¬ (((UInt8.toNat c : Nat) : Int) = (45 : Int)) := ne_of_beq_false hb46
     refine d_e [2] [] En51 fun ac53 En54 => ?_
     refine then_normal ?_
     refine wp_ret ?_
     refine d_ret1 (t := 2) (v := .bool (((UInt8.toNat c : Nat) : Int) == (95 : Int))) En54 (by kernel_rfl) (by kernel_rfl) ?_
     refine ⟨congrArg (fun z => Ending.returned (Value.bool z)) ?_, Hv0.pick [] (by kernel_rfl) (by decide)⟩
     exact by unfold letB; first | (rw [Bool.eq_iff_iff]; simp only [decide_eq_true_eq, beq_iff_eq, bne_iff_ne, ne_eq]; omega) | (simp; omega)
 ·
  have En55 := En4.fx (t := 5) (congrArg Value.bool hb5)
  have hp56 : ¬ (((UInt8.toNat c : Nat) : Int) ≥ (97 : Int)) := of_decide_eq_false hb5
  refine d_k [0,2,9,12] [] 10 En55 fun ac57 En58 => ?_
  rcases Bool.eq_false_or_eq_true (decide (((UInt8.toNat c : Nat) : Int) ≥ (48 : Int))) with hb59 | hb59
  ·
   have En60 := En58.fx (t := 12) (congrArg Value.bool hb59)
   have hp61 : ((UInt8.toNat c : Nat) : Int) ≥ (48 : Int) := of_decide_eq_true hb59
   refine d_k [0,2,17] [] 15 En60 fun ac62 En63 => ?_
   rcases Bool.eq_false_or_eq_true (decide (((UInt8.toNat c : Nat) : Int) ≤ (57 : Int))) with hb64 | hb64
   ·
    have En65 := En63.fx (t := 17) (congrArg Value.bool hb64)
    have hp66 : ((UInt8.toNat c : Nat) : Int) ≤ (57 : Int) := of_decide_eq_true hb64
    refine d_e [2] [] En65 fun ac67 En68 => ?_
    refine then_normal ?_
    refine wp_ret ?_
    refine d_ret1 (t := 2) (v := .bool true) En68 (by kernel_rfl) (by kernel_rfl) ?_
    refine ⟨congrArg (fun z => Ending.returned (Value.bool z)) ?_, Hv0.pick [] (by kernel_rfl) (by decide)⟩
    exact (decide_eq_true (by omega)).symm
   ·
    have En69 := En63.fx (t := 17) (congrArg Value.bool hb64)
    have hp70 : ¬ (((UInt8.toNat c : Nat) : Int) ≤ (57 : Int)) := of_decide_eq_false hb64
    refine d_k [0,2,21] [] 19 En69 fun ac71 En72 => ?_
    rcases Bool.eq_false_or_eq_true (((UInt8.toNat c : Nat) : Int) == (45 : Int)) with hb73 | hb73
    ·
     have En74 := En72.fx (t := 21) (congrArg Value.bool hb73)
     have hp75 : ((UInt8.toNat c : Nat) : Int) = (45 : Int) := eq_of_beq hb73
     refine d_e [2] [] En74 fun ac76 En77 => ?_
     refine then_normal ?_
     refine wp_ret ?_
     refine d_ret1 (t := 2) (v := .bool true) En77 (by kernel_rfl) (by kernel_rfl) ?_
     refine ⟨congrArg (fun z => Ending.returned (Value.bool z)) ?_, Hv0.pick [] (by kernel_rfl) (by decide)⟩
     exact (decide_eq_true (by omega)).symm
    ·
     have En78 := En72.fx (t := 21) (congrArg Value.bool hb73)
     have hp79 : ¬ (((UInt8.toNat c : Nat) : Int) = (45 : Int)) := ne_of_beq_false hb73
     refine d_e [2] [] En78 fun ac80 En81 => ?_
     refine then_normal ?_
     refine wp_ret ?_
     refine d_ret1 (t := 2) (v := .bool (((UInt8.toNat c : Nat) : Int) == (95 : Int))) En81 (by kernel_rfl) (by kernel_rfl) ?_
     refine ⟨congrArg (fun z => Ending.returned (Value.bool z)) ?_, Hv0.pick [] (by kernel_rfl) (by decide)⟩
     exact by unfold letB; first | (rw [Bool.eq_iff_iff]; simp only [decide_eq_true_eq, beq_iff_eq, bne_iff_ne, ne_eq]; omega) | (simp; omega)
  ·
   have En82 := En58.fx (t := 12) (congrArg Value.bool hb59)
   have hp83 : ¬ (((UInt8.toNat c : Nat) : Int) ≥ (48 : Int)) := of_decide_eq_false hb59
   refine d_k [0,2,21] [] 19 En82 fun ac84 En85 => ?_
   rcases Bool.eq_false_or_eq_true (((UInt8.toNat c : Nat) : Int) == (45 : Int)) with hb86 | hb86
   ·
    have En87 := En85.fx (t := 21) (congrArg Value.bool hb86)
    have hp88 : ((UInt8.toNat c : Nat) : Int) = (45 : Int) := eq_of_beq hb86
    refine d_e [2] [] En87 fun ac89 En90 => ?_
    refine then_normal ?_
    refine wp_ret ?_
    refine d_ret1 (t := 2) (v := .bool true) En90 (by kernel_rfl) (by kernel_rfl) ?_
    refine ⟨congrArg (fun z => Ending.returned (Value.bool z)) ?_, Hv0.pick [] (by kernel_rfl) (by decide)⟩
    exact (decide_eq_true (by omega)).symm
   ·
    have En91 := En85.fx (t := 21) (congrArg Value.bool hb86)
    have hp92 : ¬ (((UInt8.toNat c : Nat) : Int) = (45 : Int)) := ne_of_beq_false hb86
    refine d_e [2] [] En91 fun ac93 En94 => ?_
    refine then_normal ?_
    refine wp_ret ?_
    refine d_ret1 (t := 2) (v := .bool (((UInt8.toNat c : Nat) : Int) == (95 : Int))) En94 (by kernel_rfl) (by kernel_rfl) ?_
    refine ⟨congrArg (fun z => Ending.returned (Value.bool z)) ?_, Hv0.pick [] (by kernel_rfl) (by decide)⟩
    exact by unfold letB; first | (rw [Bool.eq_iff_iff]; simp only [decide_eq_true_eq, beq_iff_eq, bne_iff_ne, ne_eq]; omega) | (simp; omega)

theorem dplain_go (w : World) (c : UInt8) : Calls Tryd.prog 50 #[bv c] w fun e w' => e = .returned (.bool (plB c)) ∧ Ev w [] w' [] := by
 refine d_0 [(0, bv c)] 17 Go.Proofs.Tryd.func50 Go.Proofs.Tryd.ntmps50 (Heap.nil _) fun act0 En0 Hv0 => ?_
 refine d_s [0,2] [] En0 fun ac1 En2 => ?_
 refine wp_seq ?_
 refine region_from ?_
 refine d_k [0,2,5] [] 3 En2 fun ac3 En4 => ?_
 rcases Bool.eq_false_or_eq_true (decide (((UInt8.toNat c : Nat) : Int) ≥ (32 : Int))) with hb5 | hb5
 ·
  have En6 := En4.fx (t := 5) (congrArg Value.bool hb5)
  have hp7 : ((UInt8.toNat c : Nat) : Int) ≥ (32 : Int) := of_decide_eq_true hb5
  refine d_k [0,2,9] [] 7 En6 fun ac8 En9 => ?_
  rcases Bool.eq_false_or_eq_true (decide (((UInt8.toNat c : Nat) : Int) < (127 : Int))) with hb10 | hb10
  ·
   have En11 := En9.fx (t := 9) (congrArg Value.bool hb10)
   have hp12 : ((UInt8.toNat c : Nat) : Int) < (127 : Int) := of_decide_eq_true hb10
   refine d_k [0,2,13] [] 11 En11 fun ac13 En14 => ?_
   rcases Bool.eq_false_or_eq_true (((UInt8.toNat c : Nat) : Int) != (34 : Int)) with hb15 | hb15
   ·
    have En16 := En14.fx (t := 13) (congrArg Value.bool hb15)
    have hp17 : ¬ (((UInt8.toNat c : Nat) : Int) = (34 : Int)) := by simpa using hb15
    refine d_e [2] [] En16 fun ac18 En19 => ?_
    refine then_normal ?_
    refine wp_ret ?_
    refine d_ret1 (t := 2) (v := .bool (((UInt8.toNat c : Nat) : Int) != (92 : Int))) En19 (by kernel_rfl) (by kernel_rfl) ?_
    refine ⟨congrArg (fun z => Ending.returned (Value.bool z)) ?_, Hv0.pick [] (by kernel_rfl) (by decide)⟩
    exact by unfold plB; first | (rw [Bool.eq_iff_iff]; simp only [decide_eq_true_eq, beq_iff_eq, bne_iff_ne, ne_eq]; omega) | (simp; omega)
   ·
    have En20 := En14.fx (t := 13) (congrArg Value.bool hb15)
    have hp21 : ((UInt8.toNat c : Nat) : Int) = (34 : Int) := by simpa using hb15
    refine d_e [2] [] En20 fun ac22 En23 => ?_
    refine then_normal ?_
    refine wp_ret ?_
    refine d_ret1 (t := 2) (v := .bool false) En23 (by kernel_rfl) (by kernel_rfl) ?_
    refine ⟨congrArg (fun z => Ending.returned (Value.bool z)) ?_, Hv0.pick [] (by kernel_rfl) (by decide)⟩
    exact (decide_eq_false (by omega)).symm
  ·
   have En24 := En9.fx (t := 9) (congrArg Value.bool hb10)
   have hp25 : ¬ (((UInt8.toNat c : Nat) : Int) < (127 : Int)) := of_decide_eq_false hb10
   refine d_e [2] [] En24 fun ac26 En27 => ?_
   refine then_normal ?_
   refine wp_ret ?_
   refine d_ret1 (t := 2) (v := .bool false) En27 (by kernel_rfl) (by kernel_rfl) ?_
   refine ⟨congrArg (fun z => Ending.returned (Value.bool z)) ?_, Hv0.pick [] (by kernel_rfl) (by decide)⟩
   exact (decide_eq_false (by omega)).symm
 ·
  have En28 := En4.fx (t := 5) (congrArg Value.bool hb5)
  have hp29 : ¬ (((UInt8.toNat c : Nat) : Int) ≥ (32 : Int)) := of_decide_eq_false hb5
  refine d_e [2] [] En28 fun ac30 En31 => ?_
  refine then_normal ?_
  refine wp_ret ?_
  refine d_ret1 (t := 2) (v := .bool false) En31 (by kernel_rfl) (by kernel_rfl) ?_
  refine ⟨congrArg (fun z => Ending.returned (Value.bool z)) ?_, Hv0.pick [] (by kernel_rfl) (by decide)⟩
  exact (decide_eq_false (by omega)).symm

theorem run_go (w : World) (s : List UInt8) (hs : List.length s ≤ 140737488351232) : Calls Tryd.prog 37 #[.string (bstr s)] w fun e w' => e = .returned (.int .i64 ((runN s : Nat) : Int)) ∧ Ev w [] w' [] := by
 refine d_0 [(0, .string (bstr s))] 17 Go.Proofs.Tryd.func37 Go.Proofs.Tryd.ntmps37 (Heap.nil _) fun act0 En0 Hv0 => ?_
 refine wp_seq ?_
 refine d_r [0,2] [] En0 fun ac1 En2 => ?_
 refine then_normal ?_
 refine wp_seq ?_
 have hz := bstr_size s
 refine d_r [0,2,3] [] En2 fun ac3 En4 => ?_
 refine then_normal ?_
 refine wp_seq ?_
 refine wp_block ?_
 refine loop_m (fun ms5 ac wo => ∃ (p : Nat), ms5 = (List.length s - p : Nat) ∧ Env ac 17 [(0, .string (bstr s)), (2, .int .i64 0), (3, ni p)] ∧ Ev w [] wo [] ∧ (p ≤ List.length s) ∧ (List.all (List.take p s) letB = true)) ⟨_, 0, rfl, En4.sub (by kernel_rfl), Hv0.pick [] (by kernel_rfl) (by decide), (Nat.zero_le _), rfl⟩ ?_
 rintro mm11 ac7 wo8 ⟨p, rfl, En9, Hv10, hpl, hga⟩
 refine wp_seq ?_
 refine wp_seq ?_
 refine region_from ?_
 refine d_k [0,2,3,8] [] 5 En9 fun ac12 En13 => ?_
 rcases Bool.eq_false_or_eq_true (decide (((p : Nat) : Int) < ((ByteArray.size (bstr s) : Nat) : Int))) with hb14 | hb14
 ·
  have En15 := En13.fx (t := 8) (congrArg Value.bool hb14)
  have hp16 : ((p : Nat) : Int) < ((ByteArray.size (bstr s) : Nat) : Int) := of_decide_eq_true hb14
  have hb17 : p < List.length s := by omega
  refine d_k [0,2,3,8,9,10] [] 7 En15 fun ac18 En19 => ?_
  refine f_o ?_
  refine q_v (x := Instr.index 9 (.string (bstr s)) (ni p)) (v := .int .u8 ((UInt8.toNat (List.getD s p 0) : Nat) : Int)) En19 (Go.Dbr.run_indexstr (s := s) (j := p) (by kernel_rfl) (by omega) hb17 _) fun ac20 En21 => ?_
  refine f_o ?_
  refine c_p En21 Hv10 (letter_go _ (List.getD s p 0)) fun ac26 wo23 En27 Hv28 => ?_
  refine d_e [0,2,3,13] [] En27 fun ac29 En30 => ?_
  refine then_normal ?_
  refine cond_at En30 (t := letB (List.getD s p 0)) (by kernel_rfl) (fun hc31 => ?_) (fun hc31 => ?_)
  ·
   replace hc31 : letB (List.getD s p 0) = true := hc31
   refine wp_skip ?_
   refine then_normal ?_
   refine wp_block ?_
   refine d_r [0,2,3] [(1, g_n (w_a p 1))] En30 fun ac32 En33 => ?_
   refine block_normal ?_
   refine then_normal ?_
   refine ⟨_, ⟨p + 1, rfl, En33.sub (by kernel_rfl), Hv28.pick [] (by kernel_rfl) (by decide), (by omega), (all_next (by omega) hga (by assumption))⟩, ?_⟩
   omega
  ·
   replace hc31 : ¬ (letB (List.getD s p 0) = true) := Bool.eq_false_iff.1 hc31
   refine wp_exit ?_
   refine then_exit ?_
   refine then_exit ?_
   refine block_exit ?_
   refine then_normal ?_
   refine wp_seq ?_
   refine d_r [0,2,3] [] En30 fun ac34 En35 => ?_
   refine then_normal ?_
   refine wp_ret ?_
   refine d_ret1 (t := 2) (v := ni p) En35 (by kernel_rfl) (by kernel_rfl) ?_
   rw [← run_end hpl hga (by first | (intro hq; exact absurd hq (by omega)) | (intro hq; exact Bool.eq_false_iff.2 (by assumption)))]
   exact ⟨rfl, Hv28.pick [] (by kernel_rfl) (by decide)⟩
 ·
  have En36 := En13.fx (t := 8) (congrArg Value.bool hb14)
  have hp37 : ¬ (((p : Nat) : Int) < ((ByteArray.size (bstr s) : Nat) : Int)) := of_decide_eq_false hb14
  refine d_e [0,2,3,13] [] En36 fun ac38 En39 => ?_
  refine then_normal ?_
  refine c_f En39 ?_
  refine wp_exit ?_
  refine then_exit ?_
  refine then_exit ?_
  refine block_exit ?_
  refine then_normal ?_
  refine wp_seq ?_
  refine d_r [0,2,3] [] En39 fun ac40 En41 => ?_
  refine then_normal ?_
  refine wp_ret ?_
  refine d_ret1 (t := 2) (v := ni p) En41 (by kernel_rfl) (by kernel_rfl) ?_
  rw [← run_end hpl hga (by first | (intro hq; exact absurd hq (by omega)) | (intro hq; exact Bool.eq_false_iff.2 (by assumption)))]
  exact ⟨rfl, Hv10.pick [] (by kernel_rfl) (by decide)⟩

theorem word_go (w : World) (s : List UInt8) (hs : List.length s ≤ 140737488351232) : Calls Tryd.prog 18 #[.string (bstr s)] w fun e w' => e = .returned (.bool (wordB s)) ∧ Ev w [] w' [] := by
 refine d_0 [(0, .string (bstr s))] 27 Go.Proofs.Tryd.func18 Go.Proofs.Tryd.ntmps18 (Heap.nil _) fun act0 En0 Hv0 => ?_
 refine wp_seq ?_
 refine d_r [0,2] [] En0 fun ac1 En2 => ?_
 refine then_normal ?_
 refine wp_seq ?_
 have hz := bstr_size s
 refine region_from ?_
 refine d_k [0,2,5] [(1, g_v (show (.bool (!(ByteArray.toList (bstr s) == ByteArray.toList (bstr []))) : Value) = .bool (decide (0 < List.length s)) by rw [Go.Dbr.bstr_eq s [], ne0b s] <;> rfl))] 3 En2 fun ac3 En4 => ?_
 rcases Bool.eq_false_or_eq_true (decide (0 < List.length s)) with hb5 | hb5
 ·
  have En6 := En4.fx (t := 5) (congrArg Value.bool hb5)
  have hp7 : 0 < List.length s := of_decide_eq_true hb5
  refine d_k [0,2,10] [] 8 En6 fun ac8 En9 => ?_
  rcases Bool.eq_false_or_eq_true (decide (((ByteArray.size (bstr s) : Nat) : Int) ≤ (32 : Int))) with hb10 | hb10
  ·
   have En11 := En9.fx (t := 10) (congrArg Value.bool hb10)
   have hp12 : ((ByteArray.size (bstr s) : Nat) : Int) ≤ (32 : Int) := of_decide_eq_true hb10
   have hb13 : 0 < List.length s := by omega
   refine d_k [0,2,10,11] [] 9 En11 fun ac14 En15 => ?_
   refine f_o ?_
   refine q_v (x := Instr.index 9 (.string (bstr s)) (.int .i64 0)) (v := .int .u8 ((UInt8.toNat (List.getD s 0 0) : Nat) : Int)) En15 (Go.Dbr.run_indexstr (s := s) (j := 0) (by kernel_rfl) (by omega) hb13 _) fun ac16 En17 => ?_
   refine d_k [0,2,15] [] 13 En17 fun ac18 En19 => ?_
   rcases Bool.eq_false_or_eq_true (decide (((UInt8.toNat (List.getD s 0 0) : Nat) : Int) ≥ (97 : Int))) with hb20 | hb20
   ·
    have En21 := En19.fx (t := 15) (congrArg Value.bool hb20)
    have hp22 : ((UInt8.toNat (List.getD s 0 0) : Nat) : Int) ≥ (97 : Int) := of_decide_eq_true hb20
    have hb23 : 0 < List.length s := by omega
    refine d_k [0,2,15,16] [] 14 En21 fun ac24 En25 => ?_
    refine f_o ?_
    refine q_v (x := Instr.index 9 (.string (bstr s)) (.int .i64 0)) (v := .int .u8 ((UInt8.toNat (List.getD s 0 0) : Nat) : Int)) En25 (Go.Dbr.run_indexstr (s := s) (j := 0) (by kernel_rfl) (by omega) hb23 _) fun ac26 En27 => ?_
    refine d_k [0,2,20] [] 18 En27 fun ac28 En29 => ?_
    rcases Bool.eq_false_or_eq_true (decide (((UInt8.toNat (List.getD s 0 0) : Nat) : Int) ≤ (122 : Int))) with hb30 | hb30
    ·
     have En31 := En29.fx (t := 20) (congrArg Value.bool hb30)
     have hp32 : ((UInt8.toNat (List.getD s 0 0) : Nat) : Int) ≤ (122 : Int) := of_decide_eq_true hb30
     refine d_k [0,2,20,21] [] 19 En31 fun ac33 En34 => ?_
     refine f_o ?_
     refine c_p En34 Hv0 (run_go _ s (by first | assumption | omega)) fun ac39 wo36 En40 Hv41 => ?_
     refine d_e [2] [] En40 fun ac42 En43 => ?_
     refine then_normal ?_
     refine wp_ret ?_
     refine d_ret1 (t := 2) (v := .bool (((runN s : Nat) : Int) == ((ByteArray.size (bstr s) : Nat) : Int))) En43 (by kernel_rfl) (by kernel_rfl) ?_
     have hz := bstr_size s
     refine ⟨congrArg (fun z => Ending.returned (Value.bool z)) ?_, Hv41.pick [] (by kernel_rfl) (by decide)⟩
     exact by rw [w_r (by omega), Bool.eq_iff_iff]; simp only [decide_eq_true_eq, beq_iff_eq, bne_iff_ne, ne_eq]; omega
    ·
     have En44 := En29.fx (t := 20) (congrArg Value.bool hb30)
     have hp45 : ¬ (((UInt8.toNat (List.getD s 0 0) : Nat) : Int) ≤ (122 : Int)) := of_decide_eq_false hb30
     refine d_e [2] [] En44 fun ac46 En47 => ?_
     refine then_normal ?_
     refine wp_ret ?_
     refine d_ret1 (t := 2) (v := .bool false) En47 (by kernel_rfl) (by kernel_rfl) ?_
     have hz := bstr_size s
     refine ⟨congrArg (fun z => Ending.returned (Value.bool z)) ?_, Hv0.pick [] (by kernel_rfl) (by decide)⟩
     exact (w_n (by omega)).symm
   ·
    have En48 := En19.fx (t := 15) (congrArg Value.bool hb20)
    have hp49 : ¬ (((UInt8.toNat (List.getD s 0 0) : Nat) : Int) ≥ (97 : Int)) := of_decide_eq_false hb20
    refine d_e [2] [] En48 fun ac50 En51 => ?_
    refine then_normal ?_
    refine wp_ret ?_
    refine d_ret1 (t := 2) (v := .bool false) En51 (by kernel_rfl) (by kernel_rfl) ?_
    have hz := bstr_size s
    refine ⟨congrArg (fun z => Ending.returned (Value.bool z)) ?_, Hv0.pick [] (by kernel_rfl) (by decide)⟩
    exact (w_n (by omega)).symm
  ·
   have En52 := En9.fx (t := 10) (congrArg Value.bool hb10)
   have hp53 : ¬ (((ByteArray.size (bstr s) : Nat) : Int) ≤ (32 : Int)) := of_decide_eq_false hb10
   refine d_e [2] [] En52 fun ac54 En55 => ?_
   refine then_normal ?_
   refine wp_ret ?_
   refine d_ret1 (t := 2) (v := .bool false) En55 (by kernel_rfl) (by kernel_rfl) ?_
   have hz := bstr_size s
   refine ⟨congrArg (fun z => Ending.returned (Value.bool z)) ?_, Hv0.pick [] (by kernel_rfl) (by decide)⟩
   exact (w_n (by omega)).symm
 ·
  have En56 := En4.fx (t := 5) (congrArg Value.bool hb5)
  have hp57 : ¬ (0 < List.length s) := of_decide_eq_false hb5
  refine d_e [2] [] En56 fun ac58 En59 => ?_
  refine then_normal ?_
  refine wp_ret ?_
  refine d_ret1 (t := 2) (v := .bool false) En59 (by kernel_rfl) (by kernel_rfl) ?_
  have hz := bstr_size s
  refine ⟨congrArg (fun z => Ending.returned (Value.bool z)) ?_, Hv0.pick [] (by kernel_rfl) (by decide)⟩
  exact (w_n (by omega)).symm

theorem dword_go (w : World) (s : List UInt8) (hs : List.length s ≤ 140737488351232) : Calls Tryd.prog 30 #[.string (bstr s)] w fun e w' => e = .returned (.bool (wordB s)) ∧ Ev w [] w' [] := by
 refine d_0 [(0, .string (bstr s))] 34 Go.Proofs.Tryd.func30 Go.Proofs.Tryd.ntmps30 (Heap.nil _) fun act0 En0 Hv0 => ?_
 refine wp_seq ?_
 refine d_r [0,2] [] En0 fun ac1 En2 => ?_
 refine then_normal ?_
 refine wp_seq ?_
 refine wp_seq ?_
 have hz := bstr_size s
 refine region_from ?_
 refine d_k [0,2,7] [] 4 En2 fun ac3 En4 => ?_
 rcases Bool.eq_false_or_eq_true (decide (((ByteArray.size (bstr s) : Nat) : Int) < (1 : Int))) with hb5 | hb5
 ·
  have En6 := En4.fx (t := 7) (congrArg Value.bool hb5)
  have hp7 : ((ByteArray.size (bstr s) : Nat) : Int) < (1 : Int) := of_decide_eq_true hb5
  refine d_e [0,2,22] [] En6 fun ac8 En9 => ?_
  refine then_normal ?_
  refine c_t En9 ?_
  refine wp_seq ?_
  refine d_r [0,2] [] En9 fun ac10 En11 => ?_
  refine then_normal ?_
  refine wp_ret ?_
  refine then_ret ?_
  refine d_ret1 (t := 2) (v := .bool false) En11 (by kernel_rfl) (by kernel_rfl) ?_
  have hz := bstr_size s
  refine ⟨congrArg (fun z => Ending.returned (Value.bool z)) ?_, Hv0.pick [] (by kernel_rfl) (by decide)⟩
  exact (by first | exact w_n (by omega) | exact w_bad (i := p) (by omega) (Bool.eq_false_iff.2 (by assumption)) : wordB s = false).symm
 ·
  have En12 := En4.fx (t := 7) (congrArg Value.bool hb5)
  have hp13 : ¬ (((ByteArray.size (bstr s) : Nat) : Int) < (1 : Int)) := of_decide_eq_false hb5
  refine d_k [0,2,12] [] 9 En12 fun ac14 En15 => ?_
  rcases Bool.eq_false_or_eq_true (decide (((ByteArray.size (bstr s) : Nat) : Int) > (32 : Int))) with hb16 | hb16
  ·
   have En17 := En15.fx (t := 12) (congrArg Value.bool hb16)
   have hp18 : ((ByteArray.size (bstr s) : Nat) : Int) > (32 : Int) := of_decide_eq_true hb16
   refine d_e [0,2,22] [] En17 fun ac19 En20 => ?_
   refine then_normal ?_
   refine c_t En20 ?_
   refine wp_seq ?_
   refine d_r [0,2] [] En20 fun ac21 En22 => ?_
   refine then_normal ?_
   refine wp_ret ?_
   refine then_ret ?_
   refine d_ret1 (t := 2) (v := .bool false) En22 (by kernel_rfl) (by kernel_rfl) ?_
   have hz := bstr_size s
   refine ⟨congrArg (fun z => Ending.returned (Value.bool z)) ?_, Hv0.pick [] (by kernel_rfl) (by decide)⟩
   exact (by first | exact w_n (by omega) | exact w_bad (i := p) (by omega) (Bool.eq_false_iff.2 (by assumption)) : wordB s = false).symm
  ·
   have En23 := En15.fx (t := 12) (congrArg Value.bool hb16)
   have hp24 : ¬ (((ByteArray.size (bstr s) : Nat) : Int) > (32 : Int)) := of_decide_eq_false hb16
   have hb25 : 0 < List.length s := by omega
   refine d_k [0,2,12,13] [] 10 En23 fun ac26 En27 => ?_
   refine f_o ?_
   refine q_v (x := Instr.index 9 (.string (bstr s)) (.int .i64 0)) (v := .int .u8 ((UInt8.toNat (List.getD s 0 0) : Nat) : Int)) En27 (Go.Dbr.run_indexstr (s := s) (j := 0) (by kernel_rfl) (by omega) hb25 _) fun ac28 En29 => ?_
   refine d_k [0,2,12,16] [] 13 En29 fun ac30 En31 => ?_
   rcases Bool.eq_false_or_eq_true (decide (((UInt8.toNat (List.getD s 0 0) : Nat) : Int) ≥ (97 : Int))) with hb32 | hb32
   ·
    have En33 := En31.fx (t := 16) (congrArg Value.bool hb32)
    have hp34 : ((UInt8.toNat (List.getD s 0 0) : Nat) : Int) ≥ (97 : Int) := of_decide_eq_true hb32
    have hb35 : 0 < List.length s := by omega
    refine d_k [0,2,12,16,17] [] 14 En33 fun ac36 En37 => ?_
    refine f_o ?_
    refine q_v (x := Instr.index 9 (.string (bstr s)) (.int .i64 0)) (v := .int .u8 ((UInt8.toNat (List.getD s 0 0) : Nat) : Int)) En37 (Go.Dbr.run_indexstr (s := s) (j := 0) (by kernel_rfl) (by omega) hb35 _) fun ac38 En39 => ?_
    refine d_e [0,2,22] [] En39 fun ac40 En41 => ?_
    refine then_normal ?_
    refine cond_at En41 (t := !(decide (((UInt8.toNat (List.getD s 0 0) : Nat) : Int) ≤ (122 : Int)))) (by kernel_rfl) (fun hc42 => ?_) (fun hc42 => ?_)
    ·
     replace hc42 : ¬ (((UInt8.toNat (List.getD s 0 0) : Nat) : Int) ≤ (122 : Int)) := by simpa using hc42
     refine wp_seq ?_
     refine d_r [0,2] [] En41 fun ac43 En44 => ?_
     refine then_normal ?_
     refine wp_ret ?_
     refine then_ret ?_
     refine d_ret1 (t := 2) (v := .bool false) En44 (by kernel_rfl) (by kernel_rfl) ?_
     have hz := bstr_size s
     refine ⟨congrArg (fun z => Ending.returned (Value.bool z)) ?_, Hv0.pick [] (by kernel_rfl) (by decide)⟩
     exact (by first | exact w_n (by omega) | exact w_bad (i := p) (by omega) (Bool.eq_false_iff.2 (by assumption)) : wordB s = false).symm
    ·
     replace hc42 : ((UInt8.toNat (List.getD s 0 0) : Nat) : Int) ≤ (122 : Int) := by simpa using hc42
     refine wp_skip ?_
     refine then_normal ?_
     refine wp_seq ?_
     refine wp_seq ?_
     refine d_r [0,2,3] [] En41 fun ac45 En46 => ?_
     refine then_normal ?_
     refine wp_block ?_
     refine loop_m (fun ms47 ac wo => ∃ (p : Nat), ms47 = (List.length s - p : Nat) ∧ Env ac 34 [(0, .string (bstr s)), (3, ni p)] ∧ Ev w [] wo [] ∧ (p ≤ List.length s) ∧ (List.all (List.take p s) letB = true)) ⟨_, 0, rfl, En46.sub (by kernel_rfl), Hv0.pick [] (by kernel_rfl) (by decide), (Nat.zero_le _), rfl⟩ ?_
     rintro mm53 ac49 wo50 ⟨p, rfl, En51, Hv52, hpl, hga⟩
     refine wp_seq ?_
     refine wp_seq ?_
     refine d_r [0,3,26] [] En51 fun ac54 En55 => ?_
     refine then_normal ?_
     refine c_d (((p : Nat) : Int) < ((ByteArray.size (bstr s) : Nat) : Int)) En55 (fun hc56 => ?_) (fun hc56 => ?_)
     ·
      refine wp_skip ?_
      refine then_normal ?_
      refine wp_seq ?_
      refine wp_block ?_
      refine wp_seq ?_
      have hb57 : p < List.length s := by omega
      refine region_from ?_
      refine d_k [0,3,29,30] [] 2 En55 fun ac58 En59 => ?_
      refine f_o ?_
      refine q_v (x := Instr.index 9 (.string (bstr s)) (ni p)) (v := .int .u8 ((UInt8.toNat (List.getD s p 0) : Nat) : Int)) En59 (Go.Dbr.run_indexstr (s := s) (j := p) (by kernel_rfl) (by omega) hb57 _) fun ac60 En61 => ?_
      refine f_o ?_
      refine c_p En61 Hv52 (dletter_go _ (List.getD s p 0)) fun ac66 wo63 En67 Hv68 => ?_
      refine d_e [0,3,33] [] En67 fun ac69 En70 => ?_
      refine then_normal ?_
      refine cond_at En70 (t := !(letB (List.getD s p 0))) (by kernel_rfl) (fun hc71 => ?_) (fun hc71 => ?_)
      ·
       replace hc71 : ¬ (letB (List.getD s p 0) = true) := by simpa using hc71
       refine wp_seq ?_
       refine d_r [0,2,3] [] En70 fun ac72 En73 => ?_
       refine then_normal ?_
       refine wp_ret ?_
       refine block_ret ?_
       refine then_ret ?_
       refine then_ret ?_
       refine block_ret ?_
       refine then_ret ?_
       refine d_ret1 (t := 2) (v := .bool false) En73 (by kernel_rfl) (by kernel_rfl) ?_
       have hz := bstr_size s
       refine ⟨congrArg (fun z => Ending.returned (Value.bool z)) ?_, Hv68.pick [] (by kernel_rfl) (by decide)⟩
       exact (by first | exact w_n (by omega) | exact w_bad (i := p) (by omega) (Bool.eq_false_iff.2 (by assumption)) : wordB s = false).symm
      ·
       replace hc71 : letB (List.getD s p 0) = true := by simpa using hc71
       refine wp_skip ?_
       refine block_normal ?_
       refine then_normal ?_
       refine d_r [0,3] [(1, g_n (w_a p 1))] En70 fun ac74 En75 => ?_
       refine then_normal ?_
       refine ⟨_, ⟨p + 1, rfl, En75.sub (by kernel_rfl), Hv68.pick [] (by kernel_rfl) (by decide), (by omega), (all_next (by omega) hga (by assumption))⟩, ?_⟩
       omega
     ·
      refine wp_exit ?_
      refine then_exit ?_
      refine then_exit ?_
      refine block_exit ?_
      refine then_normal ?_
      refine wp_seq ?_
      refine d_r [0,2,3] [] En55 fun ac76 En77 => ?_
      refine then_normal ?_
      refine wp_ret ?_
      refine d_ret1 (t := 2) (v := .bool true) En77 (by kernel_rfl) (by kernel_rfl) ?_
      have hz := bstr_size s
      refine ⟨congrArg (fun z => Ending.returned (Value.bool z)) ?_, Hv52.pick [] (by kernel_rfl) (by decide)⟩
      exact (by rw [w_y (by omega)]; rw [show p = List.length s from by omega, List.take_length] at hga; exact hga : wordB s = true).symm
   ·
    have En78 := En31.fx (t := 16) (congrArg Value.bool hb32)
    have hp79 : ¬ (((UInt8.toNat (List.getD s 0 0) : Nat) : Int) ≥ (97 : Int)) := of_decide_eq_false hb32
    refine d_e [0,2,22] [] En78 fun ac80 En81 => ?_
    refine then_normal ?_
    refine c_t En81 ?_
    refine wp_seq ?_
    refine d_r [0,2] [] En81 fun ac82 En83 => ?_
    refine then_normal ?_
    refine wp_ret ?_
    refine then_ret ?_
    refine d_ret1 (t := 2) (v := .bool false) En83 (by kernel_rfl) (by kernel_rfl) ?_
    have hz := bstr_size s
    refine ⟨congrArg (fun z => Ending.returned (Value.bool z)) ?_, Hv0.pick [] (by kernel_rfl) (by decide)⟩
    exact (by first | exact w_n (by omega) | exact w_bad (i := p) (by omega) (Bool.eq_false_iff.2 (by assumption)) : wordB s = false).symm

end Go.Proofs.YtfcfgbejpcmmkaaDoor
