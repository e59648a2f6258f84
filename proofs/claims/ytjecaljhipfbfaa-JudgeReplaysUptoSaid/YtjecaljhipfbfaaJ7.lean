/- Ideal relays: what is done to them. -/
import Derived.Test.YtjecaljhipfbfaaJ3
namespace Go.Proofs.Ytjecaljhipfbfaa
open Go.Dbr
set_option maxRecDepth 100000
set_option maxHeartbeats 2000000
set_option linter.unusedVariables false
set_option linter.unusedSimpArgs false

/-- an ideal relay: what is on its way, and what its ends saw -/
structure Rel where
  up : List UInt8
  down : List UInt8
  hdr : List UInt8
  fw : List UInt8
  fr : List UInt8
  fc : Bool
  fe : Bool
  bw : List UInt8
  br : List UInt8
  bc : Bool
  be : Bool
def clampN (n : Int) (m : Nat) : Nat := (min n ((m : Nat) : Int)).toNat
theorem clampN_le (n : Int) (m : Nat) : clampN n m ≤ m := by unfold clampN; omega
theorem clamp_eq (n : Int) (m : Nat) : (if (0 : Int) < (if ((m : Nat) : Int) < n then ((m : Nat) : Int) else n) then (if ((m : Nat) : Int) < n then ((m : Nat) : Int) else n) else (0 : Int)) = ((clampN n m : Nat) : Int) := by
  unfold clampN
  split <;> split at * <;> omega
def Rel.write (R : Rel) (s : Int) (b : List UInt8) : Rel :=
  if s = 1 then (if R.fc then R else { R with fw := R.fw ++ b, up := R.up ++ b })
  else if s = 2 then (if R.bc then R else { R with bw := R.bw ++ b, down := R.down ++ b }) else R
def Rel.close (R : Rel) (s : Int) : Rel := if s = 1 then { R with fc := true } else if s = 2 then { R with bc := true } else R
def Rel.out (R : Rel) (s n : Int) : List UInt8 := if s = 1 then R.down.take (clampN n R.down.length) else if s = 2 then R.up.take (clampN n R.up.length) else []
def Rel.read (R : Rel) (s n : Int) : Rel :=
  if s = 1 then { R with fr := R.fr ++ R.down.take (clampN n R.down.length), down := R.down.drop (clampN n R.down.length), fe := R.fe || (decide ((R.down.drop (clampN n R.down.length)).length = 0) && R.bc) }
  else if s = 2 then { R with br := R.br ++ R.up.take (clampN n R.up.length), up := R.up.drop (clampN n R.up.length), be := R.be || (decide ((R.up.drop (clampN n R.up.length)).length = 0) && R.fc) }
  else R
/-- what holds of it -/
def Rel.ok (R : Rel) : Prop := R.hdr ++ R.fw = R.br ++ R.up ∧ R.bw = R.fr ++ R.down ∧ (R.be = true → R.fc = true ∧ R.up = []) ∧ (R.fe = true → R.bc = true ∧ R.down = [])
theorem Rel.ok_new (h : List UInt8) : Rel.ok ⟨h, [], h, [], [], false, false, [], [], false, false⟩ := ⟨by simp, rfl, (fun e => by cases e), (fun e => by cases e)⟩
theorem Rel.ok_write {R : Rel} (h : R.ok) (s : Int) (b : List UInt8) : (R.write s b).ok := by
  obtain ⟨h1, h2, h3, h4⟩ := h
  unfold Rel.write
  split
  · split
    · exact ⟨h1, h2, h3, h4⟩
    · rename_i hc
      exact ⟨by simp only; rw [← List.append_assoc, h1, List.append_assoc], h2, fun e => absurd (h3 e).1 hc, h4⟩
  · split
    · split
      · exact ⟨h1, h2, h3, h4⟩
      · rename_i hc
        exact ⟨h1, by simp only; rw [h2, List.append_assoc], h3, fun e => absurd (h4 e).1 hc⟩
    · exact ⟨h1, h2, h3, h4⟩
theorem Rel.ok_close {R : Rel} (h : R.ok) (s : Int) : (R.close s).ok := by
  obtain ⟨h1, h2, h3, h4⟩ := h
  unfold Rel.close
  split
  · exact ⟨h1, h2, fun e => ⟨rfl, (h3 e).2⟩, h4⟩
  · split
    · exact ⟨h1, h2, h3, fun e => ⟨rfl, (h4 e).2⟩⟩
    · exact ⟨h1, h2, h3, h4⟩
theorem Rel.ok_read {R : Rel} (h : R.ok) (s n : Int) : (R.read s n).ok := by
  obtain ⟨h1, h2, h3, h4⟩ := h
  unfold Rel.read
  split
  · refine ⟨h1, by simp only; rw [h2, List.append_assoc, List.take_append_drop], h3, fun e => ?_⟩
    simp only [Bool.or_eq_true, Bool.and_eq_true, decide_eq_true_eq] at e ⊢
    rcases e with e | e
    · refine ⟨(h4 e).1, ?_⟩; rw [(h4 e).2]; simp
    · exact ⟨e.2, List.eq_nil_of_length_eq_zero e.1⟩
  · split
    · refine ⟨by simp only; rw [h1, List.append_assoc, List.take_append_drop], h2, fun e => ?_, h4⟩
      simp only [Bool.or_eq_true, Bool.and_eq_true, decide_eq_true_eq] at e ⊢
      rcases e with e | e
      · refine ⟨(h3 e).1, ?_⟩; rw [(h3 e).2]; simp
      · exact ⟨e.2, List.eq_nil_of_length_eq_zero e.1⟩
    · exact ⟨h1, h2, h3, h4⟩
theorem begins_self_append (a b : List UInt8) : begins a (a ++ b) = true := by
  unfold begins
  simp
theorem Rel.ok_relay {R : Rel} (h : R.ok) : relayF R.hdr R.fw R.fr R.fc R.fe R.bw R.br R.bc R.be = 0 := by
  obtain ⟨h1, h2, h3, h4⟩ := h
  unfold relayF
  rw [h1, h2, begins_self_append, begins_self_append]
  have a1 : ¬ (R.be = true ∧ ¬ (R.fc = true ∧ R.br.length = (R.br ++ R.up).length)) := fun ⟨e, hn⟩ => hn ⟨(h3 e).1, by rw [(h3 e).2]; simp⟩
  have a2 : ¬ (R.fe = true ∧ ¬ (R.bc = true ∧ R.fr.length = (R.fr ++ R.down).length)) := fun ⟨e, hn⟩ => hn ⟨(h4 e).1, by rw [(h4 e).2]; simp⟩
  simp only [Bool.true_eq_false, if_false, a1, a2]

theorem end1 (w : World) (b : Nat) : Calls Try.prog 36 #[.pointer (some ⟨b, 0, none⟩), .int .i64 1] w fun e w' => e = .returned (.tuple #[.pointer (some ⟨b, 5, none⟩), .pointer (some ⟨b, 0, none⟩), .pointer (some ⟨b, 2, none⟩)]) ∧ Ev w [] w' [] := by
  refine d_start [(0, .pointer (some ⟨b, 0, none⟩)), (1, .int .i64 1)] 32 Go.Proofs.Try.func36 Go.Proofs.Try.ntmps36 rfl (by kernel_rfl) (by kernel_rfl) ?_
  intro act0 En0
  have Hv0 : Ev w [] w [] := Ev.refl (Heap.nil _)
  refine wp_seq ?_
  refine region_from ?_  -- region 0
  refine d_pures [(0, .pointer (some ⟨b, 0, none⟩)), (1, .int .i64 1), (4, .pointer none), (5, .pointer none), (6, .pointer none)] [.pointer none, .pointer none, .pointer none] 3 En0 (by kernel_rfl) (by kernel_rfl) rfl ?_
  intro ac1 En2
  refine from_end (by kernel_rfl) ?_
  refine then_normal ?_
  refine wp_seq ?_
  refine wp_seq ?_
  refine region_from ?_  -- region 1
  refine d_pures [(0, .pointer (some ⟨b, 0, none⟩)), (4, .pointer none), (5, .pointer none), (6, .pointer none), (7, .int .i64 1)] [.int .i64 1] 1 En2 (by kernel_rfl) (by kernel_rfl) rfl ?_
  intro ac3 En4
  refine from_end (by kernel_rfl) ?_
  refine then_normal ?_
  refine wp_block ?_
  refine wp_seq ?_
  refine region_from ?_  -- region 2
  refine d_pures [(0, .pointer (some ⟨b, 0, none⟩)), (4, .pointer none), (5, .pointer none), (6, .pointer none), (7, .int .i64 1), (8, .bool true)] [.bool true, .bool true] 2 En4 (by kernel_rfl) (by kernel_rfl) rfl ?_
  intro ac5 En6
  refine from_end (by kernel_rfl) ?_
  refine then_normal ?_
  refine cond_true En6 (t := true) (by kernel_rfl) rfl ?_
  refine wp_seq ?_
  refine region_cut (F := fun ac wo => Env ac 32 [(0, .pointer (some ⟨b, 0, none⟩)), (4, .pointer (some ⟨b, 5, none⟩)), (5, .pointer (some ⟨b, 0, none⟩)), (6, .pointer (some ⟨b, 2, none⟩)), (7, .int .i64 1)] ∧ Ev w [] wo []) ?_ ?_
  ·
    refine draw_any (by kernel_rfl) 13 (by kernel_rfl) ?_  -- region 3
    have wo7 := Hv0.trans (Ev.drew Hv0.heap)
    refine any_pureR (d := some 10) En6 (v := .pointer (some ⟨b, 0, none⟩)) 0 (by kernel_rfl) (by kernel_rfl) rfl ?_
    intro ac34 En35
    refine any_pureR (d := some 11) En35 (v := .pointer (some ⟨b, 0, none⟩)) 1 (by kernel_rfl) (by kernel_rfl) rfl ?_
    intro ac36 En37
    refine any_pureR (d := some 12) En37 (v := .pointer (some ⟨b, 4, none⟩)) 2 (by kernel_rfl) (by kernel_rfl) rfl ?_
    intro ac38 En39
    refine any_pureR (d := some 13) En39 (v := .pointer (some ⟨b, 5, none⟩)) 3 (by kernel_rfl) (by kernel_rfl) rfl ?_
    intro ac40 En41
    refine any_pureR (d := some 14) En41 (v := .pointer (some ⟨b, 0, none⟩)) 4 (by kernel_rfl) (by kernel_rfl) rfl ?_
    intro ac42 En43
    refine any_pureR (d := some 15) En43 (v := .pointer (some ⟨b, 0, none⟩)) 5 (by kernel_rfl) (by kernel_rfl) rfl ?_
    intro ac44 En45
    refine any_pureR (d := some 16) En45 (v := .pointer (some ⟨b, 0, none⟩)) 6 (by kernel_rfl) (by kernel_rfl) rfl ?_
    intro ac46 En47
    refine any_pureR (d := some 17) En47 (v := .pointer (some ⟨b, 0, none⟩)) 7 (by kernel_rfl) (by kernel_rfl) rfl ?_
    intro ac48 En49
    refine any_pureR (d := some 18) En49 (v := .pointer (some ⟨b, 0, none⟩)) 8 (by kernel_rfl) (by kernel_rfl) rfl ?_
    intro ac50 En51
    refine any_pureR (d := some 19) En51 (v := .pointer (some ⟨b, 2, none⟩)) 9 (by kernel_rfl) (by kernel_rfl) rfl ?_
    intro ac52 En53
    refine any_pureR (d := some 4) En53 (v := .pointer (some ⟨b, 5, none⟩)) 10 (by kernel_rfl) (by kernel_rfl) rfl ?_
    intro ac54 En55
    refine any_pureR (d := some 5) En55 (v := .pointer (some ⟨b, 0, none⟩)) 11 (by kernel_rfl) (by kernel_rfl) rfl ?_
    intro ac56 En57
    refine any_pureR (d := some 6) En57 (v := .pointer (some ⟨b, 2, none⟩)) 12 (by kernel_rfl) (by kernel_rfl) rfl ?_
    intro ac58 En59
    exact any_end (by kernel_rfl) ⟨En59.sub (by kernel_rfl), wo7.pick [] (by kernel_rfl) (by decide)⟩
  rintro ac60 wo61 ⟨En62, Hv63⟩
  refine then_normal ?_
  refine wp_ret ?_
  refine block_ret ?_
  refine then_ret ?_
  refine d_ret3 (t := 4) (u := 5) (s := 6) (v := .pointer (some ⟨b, 5, none⟩)) (x := .pointer (some ⟨b, 0, none⟩)) (y := .pointer (some ⟨b, 2, none⟩)) En62 (by kernel_rfl) (by kernel_rfl) (by kernel_rfl) (by kernel_rfl) ?_
  exact ⟨rfl, Hv63.pick [] (by kernel_rfl) (by decide)⟩

theorem end2 (w : World) (b : Nat) : Calls Try.prog 36 #[.pointer (some ⟨b, 0, none⟩), .int .i64 2] w fun e w' => e = .returned (.tuple #[.pointer (some ⟨b, 9, none⟩), .pointer (some ⟨b, 2, none⟩), .pointer (some ⟨b, 0, none⟩)]) ∧ Ev w [] w' [] := by
  refine d_start [(0, .pointer (some ⟨b, 0, none⟩)), (1, .int .i64 2)] 32 Go.Proofs.Try.func36 Go.Proofs.Try.ntmps36 rfl (by kernel_rfl) (by kernel_rfl) ?_
  intro act0 En0
  have Hv0 : Ev w [] w [] := Ev.refl (Heap.nil _)
  refine wp_seq ?_
  refine region_from ?_  -- region 0
  refine d_pures [(0, .pointer (some ⟨b, 0, none⟩)), (1, .int .i64 2), (4, .pointer none), (5, .pointer none), (6, .pointer none)] [.pointer none, .pointer none, .pointer none] 3 En0 (by kernel_rfl) (by kernel_rfl) rfl ?_
  intro ac1 En2
  refine from_end (by kernel_rfl) ?_
  refine then_normal ?_
  refine wp_seq ?_
  refine wp_seq ?_
  refine region_from ?_  -- region 1
  refine d_pures [(0, .pointer (some ⟨b, 0, none⟩)), (4, .pointer none), (5, .pointer none), (6, .pointer none), (7, .int .i64 2)] [.int .i64 2] 1 En2 (by kernel_rfl) (by kernel_rfl) rfl ?_
  intro ac3 En4
  refine from_end (by kernel_rfl) ?_
  refine then_normal ?_
  refine wp_block ?_
  refine wp_seq ?_
  refine region_from ?_  -- region 2
  refine d_pures [(0, .pointer (some ⟨b, 0, none⟩)), (4, .pointer none), (5, .pointer none), (6, .pointer none), (7, .int .i64 2), (8, .bool false)] [.bool false, .bool false] 2 En4 (by kernel_rfl) (by kernel_rfl) rfl ?_
  intro ac5 En6
  refine from_end (by kernel_rfl) ?_
  refine then_normal ?_
  refine cond_false En6 (t := false) (by kernel_rfl) rfl ?_
  refine wp_seq ?_
  refine region_from ?_  -- region 4
  refine d_pures [(0, .pointer (some ⟨b, 0, none⟩)), (4, .pointer none), (5, .pointer none), (6, .pointer none), (7, .int .i64 2), (20, .bool true)] [.bool true, .bool true] 2 En6 (by kernel_rfl) (by kernel_rfl) rfl ?_
  intro ac7 En8
  refine from_end (by kernel_rfl) ?_
  refine then_normal ?_
  refine cond_true En8 (t := true) (by kernel_rfl) rfl ?_
  refine wp_seq ?_
  refine region_cut (F := fun ac wo => Env ac 32 [(0, .pointer (some ⟨b, 0, none⟩)), (4, .pointer (some ⟨b, 9, none⟩)), (5, .pointer (some ⟨b, 2, none⟩)), (6, .pointer (some ⟨b, 0, none⟩)), (7, .int .i64 2)] ∧ Ev w [] wo []) ?_ ?_
  ·
    refine draw_any (by kernel_rfl) 13 (by kernel_rfl) ?_  -- region 5
    have wo9 := Hv0.trans (Ev.drew Hv0.heap)
    refine any_pureR (d := some 22) En8 (v := .pointer (some ⟨b, 0, none⟩)) 0 (by kernel_rfl) (by kernel_rfl) rfl ?_
    intro ac36 En37
    refine any_pureR (d := some 23) En37 (v := .pointer (some ⟨b, 0, none⟩)) 1 (by kernel_rfl) (by kernel_rfl) rfl ?_
    intro ac38 En39
    refine any_pureR (d := some 24) En39 (v := .pointer (some ⟨b, 4, none⟩)) 2 (by kernel_rfl) (by kernel_rfl) rfl ?_
    intro ac40 En41
    refine any_pureR (d := some 25) En41 (v := .pointer (some ⟨b, 9, none⟩)) 3 (by kernel_rfl) (by kernel_rfl) rfl ?_
    intro ac42 En43
    refine any_pureR (d := some 26) En43 (v := .pointer (some ⟨b, 0, none⟩)) 4 (by kernel_rfl) (by kernel_rfl) rfl ?_
    intro ac44 En45
    refine any_pureR (d := some 27) En45 (v := .pointer (some ⟨b, 0, none⟩)) 5 (by kernel_rfl) (by kernel_rfl) rfl ?_
    intro ac46 En47
    refine any_pureR (d := some 28) En47 (v := .pointer (some ⟨b, 2, none⟩)) 6 (by kernel_rfl) (by kernel_rfl) rfl ?_
    intro ac48 En49
    refine any_pureR (d := some 29) En49 (v := .pointer (some ⟨b, 0, none⟩)) 7 (by kernel_rfl) (by kernel_rfl) rfl ?_
    intro ac50 En51
    refine any_pureR (d := some 30) En51 (v := .pointer (some ⟨b, 0, none⟩)) 8 (by kernel_rfl) (by kernel_rfl) rfl ?_
    intro ac52 En53
    refine any_pureR (d := some 31) En53 (v := .pointer (some ⟨b, 0, none⟩)) 9 (by kernel_rfl) (by kernel_rfl) rfl ?_
    intro ac54 En55
    refine any_pureR (d := some 4) En55 (v := .pointer (some ⟨b, 9, none⟩)) 10 (by kernel_rfl) (by kernel_rfl) rfl ?_
    intro ac56 En57
    refine any_pureR (d := some 5) En57 (v := .pointer (some ⟨b, 2, none⟩)) 11 (by kernel_rfl) (by kernel_rfl) rfl ?_
    intro ac58 En59
    refine any_pureR (d := some 6) En59 (v := .pointer (some ⟨b, 0, none⟩)) 12 (by kernel_rfl) (by kernel_rfl) rfl ?_
    intro ac60 En61
    exact any_end (by kernel_rfl) ⟨En61.sub (by kernel_rfl), wo9.pick [] (by kernel_rfl) (by decide)⟩
  rintro ac62 wo63 ⟨En64, Hv65⟩
  refine then_normal ?_
  refine wp_ret ?_
  refine block_ret ?_
  refine then_ret ?_
  refine d_ret3 (t := 4) (u := 5) (s := 6) (v := .pointer (some ⟨b, 9, none⟩)) (x := .pointer (some ⟨b, 2, none⟩)) (y := .pointer (some ⟨b, 0, none⟩)) En64 (by kernel_rfl) (by kernel_rfl) (by kernel_rfl) (by kernel_rfl) ?_
  exact ⟨rfl, Hv65.pick [] (by kernel_rfl) (by decide)⟩

theorem endx (w : World) (b : Nat) (sd : Int) (h1 : ¬ sd = 1) (h2 : ¬ sd = 2) : Calls Try.prog 36 #[.pointer (some ⟨b, 0, none⟩), .int .i64 sd] w fun e w' => e = .returned (.tuple #[.pointer none, .pointer none, .pointer none]) ∧ Ev w [] w' [] := by
  refine d_start [(0, .pointer (some ⟨b, 0, none⟩)), (1, .int .i64 sd)] 32 Go.Proofs.Try.func36 Go.Proofs.Try.ntmps36 rfl (by kernel_rfl) (by kernel_rfl) ?_
  intro act0 En0
  have Hv0 : Ev w [] w [] := Ev.refl (Heap.nil _)
  refine wp_seq ?_
  refine region_from ?_  -- region 0
  refine d_pures [(0, .pointer (some ⟨b, 0, none⟩)), (1, .int .i64 sd), (4, .pointer none), (5, .pointer none), (6, .pointer none)] [.pointer none, .pointer none, .pointer none] 3 En0 (by kernel_rfl) (by kernel_rfl) rfl ?_
  intro ac1 En2
  refine from_end (by kernel_rfl) ?_
  refine then_normal ?_
  refine wp_seq ?_
  refine wp_seq ?_
  refine region_from ?_  -- region 1
  refine d_pures [(0, .pointer (some ⟨b, 0, none⟩)), (4, .pointer none), (5, .pointer none), (6, .pointer none), (7, .int .i64 sd)] [.int .i64 sd] 1 En2 (by kernel_rfl) (by kernel_rfl) rfl ?_
  intro ac3 En4
  refine from_end (by kernel_rfl) ?_
  refine then_normal ?_
  refine wp_block ?_
  refine wp_seq ?_
  refine region_from ?_  -- region 2
  refine d_pures [(0, .pointer (some ⟨b, 0, none⟩)), (4, .pointer none), (5, .pointer none), (6, .pointer none), (7, .int .i64 sd), (9, .bool (sd == (1 : Int)))] [.bool (sd == (1 : Int))] 1 En4 (by kernel_rfl) (by kernel_rfl) rfl ?_
  intro ac5 En6
  rw [show (sd == (1 : Int)) = false from (by simp only [beq_eq_false_iff_ne, ne_eq]; assumption)] at En6
  refine d_pures [(0, .pointer (some ⟨b, 0, none⟩)), (4, .pointer none), (5, .pointer none), (6, .pointer none), (7, .int .i64 sd), (8, .bool false)] [.bool false] 2 En6 (by kernel_rfl) (by kernel_rfl) rfl ?_
  intro ac7 En8
  refine from_end (by kernel_rfl) ?_
  refine then_normal ?_
  refine cond_false En8 (t := false) (by kernel_rfl) rfl ?_
  refine wp_seq ?_
  refine region_from ?_  -- region 4
  refine d_pures [(0, .pointer (some ⟨b, 0, none⟩)), (4, .pointer none), (5, .pointer none), (6, .pointer none), (7, .int .i64 sd), (21, .bool (sd == (2 : Int)))] [.bool (sd == (2 : Int))] 1 En8 (by kernel_rfl) (by kernel_rfl) rfl ?_
  intro ac9 En10
  rw [show (sd == (2 : Int)) = false from (by simp only [beq_eq_false_iff_ne, ne_eq]; assumption)] at En10
  refine d_pures [(0, .pointer (some ⟨b, 0, none⟩)), (4, .pointer none), (5, .pointer none), (6, .pointer none), (7, .int .i64 sd), (20, .bool false)] [.bool false] 2 En10 (by kernel_rfl) (by kernel_rfl) rfl ?_
  intro ac11 En12
  refine from_end (by kernel_rfl) ?_
  refine then_normal ?_
  refine cond_false En12 (t := false) (by kernel_rfl) rfl ?_
  refine wp_skip ?_
  refine block_normal ?_
  refine then_normal ?_
  refine wp_seq ?_
  refine region_from ?_  -- region 6
  refine d_pures [(0, .pointer (some ⟨b, 0, none⟩)), (4, .pointer none), (5, .pointer none), (6, .pointer none), (7, .int .i64 sd)] [.pointer none, .pointer none, .pointer none] 3 En12 (by kernel_rfl) (by kernel_rfl) rfl ?_
  intro ac13 En14
  refine from_end (by kernel_rfl) ?_
  refine then_normal ?_
  refine wp_ret ?_
  refine d_ret3 (t := 4) (u := 5) (s := 6) (v := .pointer none) (x := .pointer none) (y := .pointer none) En14 (by kernel_rfl) (by kernel_rfl) (by kernel_rfl) (by kernel_rfl) ?_
  exact ⟨rfl, Hv0.pick [] (by kernel_rfl) (by decide)⟩

theorem xwrite1 (w : World) (b : Nat) (au ad ah ap aq ar av : Option Addr) (cu cd ch cp cq cr cv : Nat) (lu ld lh lp lq lr lv : List UInt8) (fc fe bc be : Bool) (ab : Option Addr) (nb cb : Nat) (lb : List UInt8) (eb : nb = List.length lb) (ib : InB w [.box b [.slice au (List.length lu) cu, .bool fc, .slice ad (List.length ld) cd, .bool bc, .slice ah (List.length lh) ch, .slice ap (List.length lp) cp, .slice aq (List.length lq) cq, .bool fc, .bool fe, .slice ar (List.length lr) cr, .slice av (List.length lv) cv, .bool bc, .bool be] 66, .vec au cu 1 (bys lu) 5, .vec ad cd 1 (bys ld) 5, .vec ah ch 1 (bys lh) 5, .vec ap cp 1 (bys lp) 5, .vec aq cq 1 (bys lq) 5, .vec ar cr 1 (bys lr) 5, .vec av cv 1 (bys lv) 5] ab cb lb) (hH : Heap w [.box b [.slice au (List.length lu) cu, .bool fc, .slice ad (List.length ld) cd, .bool bc, .slice ah (List.length lh) ch, .slice ap (List.length lp) cp, .slice aq (List.length lq) cq, .bool fc, .bool fe, .slice ar (List.length lr) cr, .slice av (List.length lv) cv, .bool bc, .bool be] 66, .vec au cu 1 (bys lu) 5, .vec ad cd 1 (bys ld) 5, .vec ah ch 1 (bys lh) 5, .vec ap cp 1 (bys lp) 5, .vec aq cq 1 (bys lq) 5, .vec ar cr 1 (bys lr) 5, .vec av cv 1 (bys lv) 5]) (hS : List.length lu + List.length ld + List.length lh + List.length lp + List.length lq + List.length lr + List.length lv + List.length lb ≤ 140737488351232) : Calls Try.prog 19 #[.pointer (some ⟨b, 0, none⟩), .int .i64 1, .slice ab nb cb] w fun e w' => ∃ au0 ad0 ah0 ap0 aq0 ar0 av0, ∃ cu0 cd0 ch0 cp0 cq0 cr0 cv0, ∃ (lu0 : List UInt8) (ld0 : List UInt8) (lh0 : List UInt8) (lp0 : List UInt8) (lq0 : List UInt8) (lr0 : List UInt8) (lv0 : List UInt8), ∃ (fc0 : Bool) (fe0 : Bool) (bc0 : Bool) (be0 : Bool), e = .returned (.tuple #[]) ∧ Ev w [.box b [.slice au (List.length lu) cu, .bool fc, .slice ad (List.length ld) cd, .bool bc, .slice ah (List.length lh) ch, .slice ap (List.length lp) cp, .slice aq (List.length lq) cq, .bool fc, .bool fe, .slice ar (List.length lr) cr, .slice av (List.length lv) cv, .bool bc, .bool be] 66, .vec au cu 1 (bys lu) 5, .vec ad cd 1 (bys ld) 5, .vec ah ch 1 (bys lh) 5, .vec ap cp 1 (bys lp) 5, .vec aq cq 1 (bys lq) 5, .vec ar cr 1 (bys lr) 5, .vec av cv 1 (bys lv) 5] w' [.box b [.slice au0 (List.length lu0) cu0, .bool fc0, .slice ad0 (List.length ld0) cd0, .bool bc0, .slice ah0 (List.length lh0) ch0, .slice ap0 (List.length lp0) cp0, .slice aq0 (List.length lq0) cq0, .bool fc0, .bool fe0, .slice ar0 (List.length lr0) cr0, .slice av0 (List.length lv0) cv0, .bool bc0, .bool be0] 66, .vec au0 cu0 1 (bys lu0) 5, .vec ad0 cd0 1 (bys ld0) 5, .vec ah0 ch0 1 (bys lh0) 5, .vec ap0 cp0 1 (bys lp0) 5, .vec aq0 cq0 1 (bys lq0) 5, .vec ar0 cr0 1 (bys lr0) 5, .vec av0 cv0 1 (bys lv0) 5] ∧ (⟨lu0, ld0, lh0, lp0, lq0, fc0, fe0, lr0, lv0, bc0, be0⟩ : Rel) = Rel.write (⟨lu, ld, lh, lp, lq, fc, fe, lr, lv, bc, be⟩ : Rel) 1 lb := by
  subst eb
  have hsb := ib.small
  have hcb := ib.cap
  refine d_start [(0, .pointer (some ⟨b, 0, none⟩)), (1, .int .i64 1), (2, .slice ab (List.length lb) cb)] 43 Go.Proofs.Try.func19 Go.Proofs.Try.ntmps19 rfl (by kernel_rfl) (by kernel_rfl) ?_
  intro act0 En0
  have Hv0 : Ev w [.box b [.slice au (List.length lu) cu, .bool fc, .slice ad (List.length ld) cd, .bool bc, .slice ah (List.length lh) ch, .slice ap (List.length lp) cp, .slice aq (List.length lq) cq, .bool fc, .bool fe, .slice ar (List.length lr) cr, .slice av (List.length lv) cv, .bool bc, .bool be] 66, .vec au cu 1 (bys lu) 5, .vec ad cd 1 (bys ld) 5, .vec ah ch 1 (bys lh) 5, .vec ap cp 1 (bys lp) 5, .vec aq cq 1 (bys lq) 5, .vec ar cr 1 (bys lr) 5, .vec av cv 1 (bys lv) 5] w [.box b [.slice au (List.length lu) cu, .bool fc, .slice ad (List.length ld) cd, .bool bc, .slice ah (List.length lh) ch, .slice ap (List.length lp) cp, .slice aq (List.length lq) cq, .bool fc, .bool fe, .slice ar (List.length lr) cr, .slice av (List.length lv) cv, .bool bc, .bool be] 66, .vec au cu 1 (bys lu) 5, .vec ad cd 1 (bys ld) 5, .vec ah ch 1 (bys lh) 5, .vec ap cp 1 (bys lp) 5, .vec aq cq 1 (bys lq) 5, .vec ar cr 1 (bys lr) 5, .vec av cv 1 (bys lv) 5] := Ev.refl (hH)
  refine wp_seq ?_
  refine region_from ?_  -- region 0
  refine d_pures [(2, .slice ab (List.length lb) cb), (10, .pointer (some ⟨b, 0, none⟩)), (11, .int .i64 1)] [.pointer (some ⟨b, 0, none⟩), .int .i64 1] 2 En0 (by kernel_rfl) (by kernel_rfl) rfl ?_
  intro ac1 En2
  refine from_op (by kernel_rfl) ?_
  have hM3 : Heap w [] := Hv0.heap.pick [] (by kernel_rfl) (by decide)
  refine op_call (d := some 12) (f := 36) (args := #[.pointer (some ⟨b, 0, none⟩), .int .i64 1]) En2 (by kernel_rfl) ((end1 _ b).mono ?_)
  rintro _ wo5 ⟨rfl, he8⟩
  refine ⟨_, rfl, ?_⟩
  intro ac4 En6
  have Hv7 : Ev w [.box b [.slice au (List.length lu) cu, .bool fc, .slice ad (List.length ld) cd, .bool bc, .slice ah (List.length lh) ch, .slice ap (List.length lp) cp, .slice aq (List.length lq) cq, .bool fc, .bool fe, .slice ar (List.length lr) cr, .slice av (List.length lv) cv, .bool bc, .bool be] 66, .vec au cu 1 (bys lu) 5, .vec ad cd 1 (bys ld) 5, .vec ah ch 1 (bys lh) 5, .vec ap cp 1 (bys lp) 5, .vec aq cq 1 (bys lq) 5, .vec ar cr 1 (bys lr) 5, .vec av cv 1 (bys lv) 5] wo5 [.box b [.slice au (List.length lu) cu, .bool fc, .slice ad (List.length ld) cd, .bool bc, .slice ah (List.length lh) ch, .slice ap (List.length lp) cp, .slice aq (List.length lq) cq, .bool fc, .bool fe, .slice ar (List.length lr) cr, .slice av (List.length lv) cv, .bool bc, .bool be] 66, .vec au cu 1 (bys lu) 5, .vec ad cd 1 (bys ld) 5, .vec ah ch 1 (bys lh) 5, .vec ap cp 1 (bys lp) 5, .vec aq cq 1 (bys lq) 5, .vec ar cr 1 (bys lr) 5, .vec av cv 1 (bys lv) 5] := Hv0.trans (Ev.call (R := [.box b [.slice au (List.length lu) cu, .bool fc, .slice ad (List.length ld) cd, .bool bc, .slice ah (List.length lh) ch, .slice ap (List.length lp) cp, .slice aq (List.length lq) cq, .bool fc, .bool fe, .slice ar (List.length lr) cr, .slice av (List.length lv) cv, .bool bc, .bool be] 66, .vec au cu 1 (bys lu) 5, .vec ad cd 1 (bys ld) 5, .vec ah ch 1 (bys lh) 5, .vec ap cp 1 (bys lp) 5, .vec aq cq 1 (bys lq) 5, .vec ar cr 1 (bys lr) 5, .vec av cv 1 (bys lv) 5]) Hv0.heap [0, 1, 2, 3, 4, 5, 6, 7] (by kernel_rfl) (by decide) he8)
  clear hM3 he8
  refine d_pures [(2, .slice ab (List.length lb) cb), (6, .pointer (some ⟨b, 5, none⟩)), (7, .pointer (some ⟨b, 0, none⟩))] [.tuple #[.pointer (some ⟨b, 5, none⟩), .pointer (some ⟨b, 0, none⟩), .pointer (some ⟨b, 2, none⟩)], .pointer (some ⟨b, 5, none⟩), .pointer (some ⟨b, 0, none⟩), .pointer (some ⟨b, 2, none⟩), .pointer (some ⟨b, 5, none⟩), .pointer (some ⟨b, 0, none⟩), .pointer (some ⟨b, 2, none⟩)] 10 En6 (by kernel_rfl) (by kernel_rfl) rfl ?_
  intro ac9 En10
  refine from_end (by kernel_rfl) ?_
  refine then_normal ?_
  refine wp_seq ?_
  refine region_from ?_  -- region 1
  refine d_pures [(2, .slice ab (List.length lb) cb), (6, .pointer (some ⟨b, 5, none⟩)), (7, .pointer (some ⟨b, 0, none⟩)), (18, .bool true), (21, .pointer (some ⟨b, 1, none⟩))] [.pointer (some ⟨b, 5, none⟩), .bool true, .bool true, .pointer (some ⟨b, 0, none⟩), .pointer (some ⟨b, 0, none⟩), .pointer (some ⟨b, 1, none⟩)] 6 En10 (by kernel_rfl) (by kernel_rfl) rfl ?_
  intro ac11 En12
  refine from_op (by kernel_rfl) ?_
  refine op_loadbox (d := some 22) (t := 4) (b := b) (off := 1) (k := 0) (v := .bool fc) En12 (by kernel_rfl) Hv7 rfl rfl (by kernel_rfl) ?_
  intro ac13 En14
  refine d_pures [(2, .slice ab (List.length lb) cb), (6, .pointer (some ⟨b, 5, none⟩)), (7, .pointer (some ⟨b, 0, none⟩)), (24, .bool (!fc))] [.bool (!fc), .bool (!fc)] 9 En14 (by kernel_rfl) (by kernel_rfl) rfl ?_
  intro ac15 En16
  refine from_end (by kernel_rfl) ?_
  refine then_normal ?_
  refine cond_at En16 (t := !fc) (by kernel_rfl) (fun hc17 => ?_) (fun hc17 => ?_)
  ·
    replace hc17 : ¬ (fc = true) := by simpa using hc17
    refine wp_seq ?_
    refine region_from ?_  -- region 2
    refine d_pures [(2, .slice ab (List.length lb) cb), (6, .pointer (some ⟨b, 5, none⟩)), (7, .pointer (some ⟨b, 0, none⟩)), (25, .pointer (some ⟨b, 5, none⟩)), (28, .pointer (some ⟨b, 5, none⟩))] [.pointer (some ⟨b, 5, none⟩), .pointer (some ⟨b, 5, none⟩), .pointer (some ⟨b, 5, none⟩), .pointer (some ⟨b, 5, none⟩)] 4 En16 (by kernel_rfl) (by kernel_rfl) rfl ?_
    intro ac18 En19
    refine from_op (by kernel_rfl) ?_
    refine op_loadbox (d := some 29) (t := 22) (b := b) (off := 5) (k := 0) (v := .slice ap (List.length lp) cp) En19 (by kernel_rfl) Hv7 rfl rfl (by kernel_rfl) ?_
    intro ac20 En21
    refine d_pures [(2, .slice ab (List.length lb) cb), (6, .pointer (some ⟨b, 5, none⟩)), (7, .pointer (some ⟨b, 0, none⟩)), (25, .pointer (some ⟨b, 5, none⟩)), (29, .slice ap (List.length lp) cp), (30, .slice ab (List.length lb) cb)] [.slice ab (List.length lb) cb] 6 En21 (by kernel_rfl) (by kernel_rfl) rfl ?_
    intro ac22 En23
    refine from_op (by kernel_rfl) ?_
    have hsm24 := ib.small
    refine op_append (d := some 31) (t := 22) (tx := 22) (ty := 22) (k := 4) (p := List.length lp) (m := List.length lb) (x := .slice ab (List.length lb) cb) (bytes := 1) En23 (by kernel_rfl) Hv7 rfl (bys_len _) (Reads.src (size := 1) (tx := 22) (e' := 5) (by kernel_rfl) (ib.ev Hv7).reads (bys_len _) ib.nz (bys_one _)) (by kernel_rfl) (z := .int .u8 0) (by kernel_rfl) rfl (by decide) (by omega) (by unfold maxLen; omega) ?_
    intro ac29 wo30 ao25 cp26 En31 Hv32 _ _
    rw [← bys_append] at Hv32
    have ehz27 : (List.length lp) + (List.length lb) = List.length (lp ++ lb) := (by first | (simp; done) | (simp; omega) | omega)
    rw [ehz27] at En31
    refine d_pures [(2, .slice ab (List.length lb) cb), (6, .pointer (some ⟨b, 5, none⟩)), (7, .pointer (some ⟨b, 0, none⟩)), (31, .slice ao25 (List.length (lp ++ lb)) cp26), (33, .pointer (some ⟨b, 5, none⟩))] [.pointer (some ⟨b, 5, none⟩), .pointer (some ⟨b, 5, none⟩)] 9 En31 (by kernel_rfl) (by kernel_rfl) rfl ?_
    intro ac33 En34
    refine from_op (by kernel_rfl) ?_
    refine op_storebox2 (d := none) (t := 22) (b := b) (off := 5) (k := 0) (v := .slice ao25 (List.length (lp ++ lb)) cp26) En34 (by kernel_rfl) Hv32 rfl rfl (by kernel_rfl) rfl rfl (L' := [.box b [.slice au (List.length lu) cu, .bool fc, .slice ad (List.length ld) cd, .bool bc, .slice ah (List.length lh) ch, .slice ao25 (List.length (lp ++ lb)) cp26, .slice aq (List.length lq) cq, .bool fc, .bool fe, .slice ar (List.length lr) cr, .slice av (List.length lv) cv, .bool bc, .bool be] 66, .vec au cu 1 (bys lu) 5, .vec ad cd 1 (bys ld) 5, .vec ah ch 1 (bys lh) 5, .vec ao25 cp26 1 (bys (lp ++ lb)) 5, .vec aq cq 1 (bys lq) 5, .vec ar cr 1 (bys lr) 5, .vec av cv 1 (bys lv) 5]) rfl ?_
    intro ac35 wo36  En37 Hv38
    refine from_end (by kernel_rfl) ?_
    refine then_normal ?_
    refine region_from ?_  -- region 3
    refine d_pures [(2, .slice ab (List.length lb) cb), (6, .pointer (some ⟨b, 5, none⟩)), (7, .pointer (some ⟨b, 0, none⟩)), (34, .pointer (some ⟨b, 0, none⟩)), (37, .pointer (some ⟨b, 0, none⟩))] [.pointer (some ⟨b, 0, none⟩), .pointer (some ⟨b, 0, none⟩), .pointer (some ⟨b, 0, none⟩), .pointer (some ⟨b, 0, none⟩)] 4 En37 (by kernel_rfl) (by kernel_rfl) rfl ?_
    intro ac39 En40
    refine from_op (by kernel_rfl) ?_
    refine op_loadbox (d := some 38) (t := 22) (b := b) (off := 0) (k := 0) (v := .slice au (List.length lu) cu) En40 (by kernel_rfl) Hv38 rfl rfl (by kernel_rfl) ?_
    intro ac41 En42
    refine d_pures [(2, .slice ab (List.length lb) cb), (6, .pointer (some ⟨b, 5, none⟩)), (7, .pointer (some ⟨b, 0, none⟩)), (34, .pointer (some ⟨b, 0, none⟩)), (38, .slice au (List.length lu) cu), (39, .slice ab (List.length lb) cb)] [.slice ab (List.length lb) cb] 6 En42 (by kernel_rfl) (by kernel_rfl) rfl ?_
    intro ac43 En44
    refine from_op (by kernel_rfl) ?_
    have hsm45 := ib.small
    refine op_append (d := some 40) (t := 22) (tx := 22) (ty := 22) (k := 1) (p := List.length lu) (m := List.length lb) (x := .slice ab (List.length lb) cb) (bytes := 1) En44 (by kernel_rfl) Hv38 rfl (bys_len _) (Reads.src (size := 1) (tx := 22) (e' := 5) (by kernel_rfl) (ib.ev Hv38).reads (bys_len _) ib.nz (bys_one _)) (by kernel_rfl) (z := .int .u8 0) (by kernel_rfl) rfl (by decide) (by omega) (by unfold maxLen; omega) ?_
    intro ac50 wo51 ao46 cp47 En52 Hv53 _ _
    rw [← bys_append] at Hv53
    have ehz48 : (List.length lu) + (List.length lb) = List.length (lu ++ lb) := (by first | (simp; done) | (simp; omega) | omega)
    rw [ehz48] at En52
    refine d_pures [(2, .slice ab (List.length lb) cb), (6, .pointer (some ⟨b, 5, none⟩)), (7, .pointer (some ⟨b, 0, none⟩)), (40, .slice ao46 (List.length (lu ++ lb)) cp47), (42, .pointer (some ⟨b, 0, none⟩))] [.pointer (some ⟨b, 0, none⟩), .pointer (some ⟨b, 0, none⟩)] 9 En52 (by kernel_rfl) (by kernel_rfl) rfl ?_
    intro ac54 En55
    refine from_op (by kernel_rfl) ?_
    refine op_storebox2 (d := none) (t := 22) (b := b) (off := 0) (k := 0) (v := .slice ao46 (List.length (lu ++ lb)) cp47) En55 (by kernel_rfl) Hv53 rfl rfl (by kernel_rfl) rfl rfl (L' := [.box b [.slice ao46 (List.length (lu ++ lb)) cp47, .bool fc, .slice ad (List.length ld) cd, .bool bc, .slice ah (List.length lh) ch, .slice ao25 (List.length (lp ++ lb)) cp26, .slice aq (List.length lq) cq, .bool fc, .bool fe, .slice ar (List.length lr) cr, .slice av (List.length lv) cv, .bool bc, .bool be] 66, .vec ao46 cp47 1 (bys (lu ++ lb)) 5, .vec ad cd 1 (bys ld) 5, .vec ah ch 1 (bys lh) 5, .vec ao25 cp26 1 (bys (lp ++ lb)) 5, .vec aq cq 1 (bys lq) 5, .vec ar cr 1 (bys lr) 5, .vec av cv 1 (bys lv) 5]) rfl ?_
    intro ac56 wo57  En58 Hv59
    refine from_end (by kernel_rfl) ?_
    refine d_end0 En58 (by kernel_rfl) ?_
    exact ⟨ao46, ad, ah, ao25, aq, ar, av, cp47, cd, ch, cp26, cq, cr, cv, (lu ++ lb), ld, lh, (lp ++ lb), lq, lr, lv, fc, fe, bc, be, rfl, Hv59.pick [0, 1, 2, 3, 4, 5, 6, 7] (by kernel_rfl) (by decide), by simp [Rel.write, hc17]⟩
  ·
    replace hc17 : fc = true := by simpa using hc17
    refine wp_skip ?_
    refine d_end0 En16 (by kernel_rfl) ?_
    exact ⟨au, ad, ah, ap, aq, ar, av, cu, cd, ch, cp, cq, cr, cv, lu, ld, lh, lp, lq, lr, lv, fc, fe, bc, be, rfl, Hv7.pick [0, 1, 2, 3, 4, 5, 6, 7] (by kernel_rfl) (by decide), by simp [Rel.write, hc17]⟩

theorem xwrite2 (w : World) (b : Nat) (au ad ah ap aq ar av : Option Addr) (cu cd ch cp cq cr cv : Nat) (lu ld lh lp lq lr lv : List UInt8) (fc fe bc be : Bool) (ab : Option Addr) (nb cb : Nat) (lb : List UInt8) (eb : nb = List.length lb) (ib : InB w [.box b [.slice au (List.length lu) cu, .bool fc, .slice ad (List.length ld) cd, .bool bc, .slice ah (List.length lh) ch, .slice ap (List.length lp) cp, .slice aq (List.length lq) cq, .bool fc, .bool fe, .slice ar (List.length lr) cr, .slice av (List.length lv) cv, .bool bc, .bool be] 66, .vec au cu 1 (bys lu) 5, .vec ad cd 1 (bys ld) 5, .vec ah ch 1 (bys lh) 5, .vec ap cp 1 (bys lp) 5, .vec aq cq 1 (bys lq) 5, .vec ar cr 1 (bys lr) 5, .vec av cv 1 (bys lv) 5] ab cb lb) (hH : Heap w [.box b [.slice au (List.length lu) cu, .bool fc, .slice ad (List.length ld) cd, .bool bc, .slice ah (List.length lh) ch, .slice ap (List.length lp) cp, .slice aq (List.length lq) cq, .bool fc, .bool fe, .slice ar (List.length lr) cr, .slice av (List.length lv) cv, .bool bc, .bool be] 66, .vec au cu 1 (bys lu) 5, .vec ad cd 1 (bys ld) 5, .vec ah ch 1 (bys lh) 5, .vec ap cp 1 (bys lp) 5, .vec aq cq 1 (bys lq) 5, .vec ar cr 1 (bys lr) 5, .vec av cv 1 (bys lv) 5]) (hS : List.length lu + List.length ld + List.length lh + List.length lp + List.length lq + List.length lr + List.length lv + List.length lb ≤ 140737488351232) : Calls Try.prog 19 #[.pointer (some ⟨b, 0, none⟩), .int .i64 2, .slice ab nb cb] w fun e w' => ∃ au0 ad0 ah0 ap0 aq0 ar0 av0, ∃ cu0 cd0 ch0 cp0 cq0 cr0 cv0, ∃ (lu0 : List UInt8) (ld0 : List UInt8) (lh0 : List UInt8) (lp0 : List UInt8) (lq0 : List UInt8) (lr0 : List UInt8) (lv0 : List UInt8), ∃ (fc0 : Bool) (fe0 : Bool) (bc0 : Bool) (be0 : Bool), e = .returned (.tuple #[]) ∧ Ev w [.box b [.slice au (List.length lu) cu, .bool fc, .slice ad (List.length ld) cd, .bool bc, .slice ah (List.length lh) ch, .slice ap (List.length lp) cp, .slice aq (List.length lq) cq, .bool fc, .bool fe, .slice ar (List.length lr) cr, .slice av (List.length lv) cv, .bool bc, .bool be] 66, .vec au cu 1 (bys lu) 5, .vec ad cd 1 (bys ld) 5, .vec ah ch 1 (bys lh) 5, .vec ap cp 1 (bys lp) 5, .vec aq cq 1 (bys lq) 5, .vec ar cr 1 (bys lr) 5, .vec av cv 1 (bys lv) 5] w' [.box b [.slice au0 (List.length lu0) cu0, .bool fc0, .slice ad0 (List.length ld0) cd0, .bool bc0, .slice ah0 (List.length lh0) ch0, .slice ap0 (List.length lp0) cp0, .slice aq0 (List.length lq0) cq0, .bool fc0, .bool fe0, .slice ar0 (List.length lr0) cr0, .slice av0 (List.length lv0) cv0, .bool bc0, .bool be0] 66, .vec au0 cu0 1 (bys lu0) 5, .vec ad0 cd0 1 (bys ld0) 5, .vec ah0 ch0 1 (bys lh0) 5, .vec ap0 cp0 1 (bys lp0) 5, .vec aq0 cq0 1 (bys lq0) 5, .vec ar0 cr0 1 (bys lr0) 5, .vec av0 cv0 1 (bys lv0) 5] ∧ (⟨lu0, ld0, lh0, lp0, lq0, fc0, fe0, lr0, lv0, bc0, be0⟩ : Rel) = Rel.write (⟨lu, ld, lh, lp, lq, fc, fe, lr, lv, bc, be⟩ : Rel) 2 lb := by
  subst eb
  have hsb := ib.small
  have hcb := ib.cap
  refine d_start [(0, .pointer (some ⟨b, 0, none⟩)), (1, .int .i64 2), (2, .slice ab (List.length lb) cb)] 43 Go.Proofs.Try.func19 Go.Proofs.Try.ntmps19 rfl (by kernel_rfl) (by kernel_rfl) ?_
  intro act0 En0
  have Hv0 : Ev w [.box b [.slice au (List.length lu) cu, .bool fc, .slice ad (List.length ld) cd, .bool bc, .slice ah (List.length lh) ch, .slice ap (List.length lp) cp, .slice aq (List.length lq) cq, .bool fc, .bool fe, .slice ar (List.length lr) cr, .slice av (List.length lv) cv, .bool bc, .bool be] 66, .vec au cu 1 (bys lu) 5, .vec ad cd 1 (bys ld) 5, .vec ah ch 1 (bys lh) 5, .vec ap cp 1 (bys lp) 5, .vec aq cq 1 (bys lq) 5, .vec ar cr 1 (bys lr) 5, .vec av cv 1 (bys lv) 5] w [.box b [.slice au (List.length lu) cu, .bool fc, .slice ad (List.length ld) cd, .bool bc, .slice ah (List.length lh) ch, .slice ap (List.length lp) cp, .slice aq (List.length lq) cq, .bool fc, .bool fe, .slice ar (List.length lr) cr, .slice av (List.length lv) cv, .bool bc, .bool be] 66, .vec au cu 1 (bys lu) 5, .vec ad cd 1 (bys ld) 5, .vec ah ch 1 (bys lh) 5, .vec ap cp 1 (bys lp) 5, .vec aq cq 1 (bys lq) 5, .vec ar cr 1 (bys lr) 5, .vec av cv 1 (bys lv) 5] := Ev.refl (hH)
  refine wp_seq ?_
  refine region_from ?_  -- region 0
  refine d_pures [(2, .slice ab (List.length lb) cb), (10, .pointer (some ⟨b, 0, none⟩)), (11, .int .i64 2)] [.pointer (some ⟨b, 0, none⟩), .int .i64 2] 2 En0 (by kernel_rfl) (by kernel_rfl) rfl ?_
  intro ac1 En2
  refine from_op (by kernel_rfl) ?_
  have hM3 : Heap w [] := Hv0.heap.pick [] (by kernel_rfl) (by decide)
  refine op_call (d := some 12) (f := 36) (args := #[.pointer (some ⟨b, 0, none⟩), .int .i64 2]) En2 (by kernel_rfl) ((end2 _ b).mono ?_)
  rintro _ wo5 ⟨rfl, he8⟩
  refine ⟨_, rfl, ?_⟩
  intro ac4 En6
  have Hv7 : Ev w [.box b [.slice au (List.length lu) cu, .bool fc, .slice ad (List.length ld) cd, .bool bc, .slice ah (List.length lh) ch, .slice ap (List.length lp) cp, .slice aq (List.length lq) cq, .bool fc, .bool fe, .slice ar (List.length lr) cr, .slice av (List.length lv) cv, .bool bc, .bool be] 66, .vec au cu 1 (bys lu) 5, .vec ad cd 1 (bys ld) 5, .vec ah ch 1 (bys lh) 5, .vec ap cp 1 (bys lp) 5, .vec aq cq 1 (bys lq) 5, .vec ar cr 1 (bys lr) 5, .vec av cv 1 (bys lv) 5] wo5 [.box b [.slice au (List.length lu) cu, .bool fc, .slice ad (List.length ld) cd, .bool bc, .slice ah (List.length lh) ch, .slice ap (List.length lp) cp, .slice aq (List.length lq) cq, .bool fc, .bool fe, .slice ar (List.length lr) cr, .slice av (List.length lv) cv, .bool bc, .bool be] 66, .vec au cu 1 (bys lu) 5, .vec ad cd 1 (bys ld) 5, .vec ah ch 1 (bys lh) 5, .vec ap cp 1 (bys lp) 5, .vec aq cq 1 (bys lq) 5, .vec ar cr 1 (bys lr) 5, .vec av cv 1 (bys lv) 5] := Hv0.trans (Ev.call (R := [.box b [.slice au (List.length lu) cu, .bool fc, .slice ad (List.length ld) cd, .bool bc, .slice ah (List.length lh) ch, .slice ap (List.length lp) cp, .slice aq (List.length lq) cq, .bool fc, .bool fe, .slice ar (List.length lr) cr, .slice av (List.length lv) cv, .bool bc, .bool be] 66, .vec au cu 1 (bys lu) 5, .vec ad cd 1 (bys ld) 5, .vec ah ch 1 (bys lh) 5, .vec ap cp 1 (bys lp) 5, .vec aq cq 1 (bys lq) 5, .vec ar cr 1 (bys lr) 5, .vec av cv 1 (bys lv) 5]) Hv0.heap [0, 1, 2, 3, 4, 5, 6, 7] (by kernel_rfl) (by decide) he8)
  clear hM3 he8
  refine d_pures [(2, .slice ab (List.length lb) cb), (6, .pointer (some ⟨b, 9, none⟩)), (7, .pointer (some ⟨b, 2, none⟩))] [.tuple #[.pointer (some ⟨b, 9, none⟩), .pointer (some ⟨b, 2, none⟩), .pointer (some ⟨b, 0, none⟩)], .pointer (some ⟨b, 9, none⟩), .pointer (some ⟨b, 2, none⟩), .pointer (some ⟨b, 0, none⟩), .pointer (some ⟨b, 9, none⟩), .pointer (some ⟨b, 2, none⟩), .pointer (some ⟨b, 0, none⟩)] 10 En6 (by kernel_rfl) (by kernel_rfl) rfl ?_
  intro ac9 En10
  refine from_end (by kernel_rfl) ?_
  refine then_normal ?_
  refine wp_seq ?_
  refine region_from ?_  -- region 1
  refine d_pures [(2, .slice ab (List.length lb) cb), (6, .pointer (some ⟨b, 9, none⟩)), (7, .pointer (some ⟨b, 2, none⟩)), (18, .bool true), (21, .pointer (some ⟨b, 3, none⟩))] [.pointer (some ⟨b, 9, none⟩), .bool true, .bool true, .pointer (some ⟨b, 2, none⟩), .pointer (some ⟨b, 2, none⟩), .pointer (some ⟨b, 3, none⟩)] 6 En10 (by kernel_rfl) (by kernel_rfl) rfl ?_
  intro ac11 En12
  refine from_op (by kernel_rfl) ?_
  refine op_loadbox (d := some 22) (t := 4) (b := b) (off := 3) (k := 0) (v := .bool bc) En12 (by kernel_rfl) Hv7 rfl rfl (by kernel_rfl) ?_
  intro ac13 En14
  refine d_pures [(2, .slice ab (List.length lb) cb), (6, .pointer (some ⟨b, 9, none⟩)), (7, .pointer (some ⟨b, 2, none⟩)), (24, .bool (!bc))] [.bool (!bc), .bool (!bc)] 9 En14 (by kernel_rfl) (by kernel_rfl) rfl ?_
  intro ac15 En16
  refine from_end (by kernel_rfl) ?_
  refine then_normal ?_
  refine cond_at En16 (t := !bc) (by kernel_rfl) (fun hc17 => ?_) (fun hc17 => ?_)
  ·
    replace hc17 : ¬ (bc = true) := by simpa using hc17
    refine wp_seq ?_
    refine region_from ?_  -- region 2
    refine d_pures [(2, .slice ab (List.length lb) cb), (6, .pointer (some ⟨b, 9, none⟩)), (7, .pointer (some ⟨b, 2, none⟩)), (25, .pointer (some ⟨b, 9, none⟩)), (28, .pointer (some ⟨b, 9, none⟩))] [.pointer (some ⟨b, 9, none⟩), .pointer (some ⟨b, 9, none⟩), .pointer (some ⟨b, 9, none⟩), .pointer (some ⟨b, 9, none⟩)] 4 En16 (by kernel_rfl) (by kernel_rfl) rfl ?_
    intro ac18 En19
    refine from_op (by kernel_rfl) ?_
    refine op_loadbox (d := some 29) (t := 22) (b := b) (off := 9) (k := 0) (v := .slice ar (List.length lr) cr) En19 (by kernel_rfl) Hv7 rfl rfl (by kernel_rfl) ?_
    intro ac20 En21
    refine d_pures [(2, .slice ab (List.length lb) cb), (6, .pointer (some ⟨b, 9, none⟩)), (7, .pointer (some ⟨b, 2, none⟩)), (25, .pointer (some ⟨b, 9, none⟩)), (29, .slice ar (List.length lr) cr), (30, .slice ab (List.length lb) cb)] [.slice ab (List.length lb) cb] 6 En21 (by kernel_rfl) (by kernel_rfl) rfl ?_
    intro ac22 En23
    refine from_op (by kernel_rfl) ?_
    have hsm24 := ib.small
    refine op_append (d := some 31) (t := 22) (tx := 22) (ty := 22) (k := 6) (p := List.length lr) (m := List.length lb) (x := .slice ab (List.length lb) cb) (bytes := 1) En23 (by kernel_rfl) Hv7 rfl (bys_len _) (Reads.src (size := 1) (tx := 22) (e' := 5) (by kernel_rfl) (ib.ev Hv7).reads (bys_len _) ib.nz (bys_one _)) (by kernel_rfl) (z := .int .u8 0) (by kernel_rfl) rfl (by decide) (by omega) (by unfold maxLen; omega) ?_
    intro ac29 wo30 ao25 cp26 En31 Hv32 _ _
    rw [← bys_append] at Hv32
    have ehz27 : (List.length lr) + (List.length lb) = List.length (lr ++ lb) := (by first | (simp; done) | (simp; omega) | omega)
    rw [ehz27] at En31
    refine d_pures [(2, .slice ab (List.length lb) cb), (6, .pointer (some ⟨b, 9, none⟩)), (7, .pointer (some ⟨b, 2, none⟩)), (31, .slice ao25 (List.length (lr ++ lb)) cp26), (33, .pointer (some ⟨b, 9, none⟩))] [.pointer (some ⟨b, 9, none⟩), .pointer (some ⟨b, 9, none⟩)] 9 En31 (by kernel_rfl) (by kernel_rfl) rfl ?_
    intro ac33 En34
    refine from_op (by kernel_rfl) ?_
    refine op_storebox2 (d := none) (t := 22) (b := b) (off := 9) (k := 0) (v := .slice ao25 (List.length (lr ++ lb)) cp26) En34 (by kernel_rfl) Hv32 rfl rfl (by kernel_rfl) rfl rfl (L' := [.box b [.slice au (List.length lu) cu, .bool fc, .slice ad (List.length ld) cd, .bool bc, .slice ah (List.length lh) ch, .slice ap (List.length lp) cp, .slice aq (List.length lq) cq, .bool fc, .bool fe, .slice ao25 (List.length (lr ++ lb)) cp26, .slice av (List.length lv) cv, .bool bc, .bool be] 66, .vec au cu 1 (bys lu) 5, .vec ad cd 1 (bys ld) 5, .vec ah ch 1 (bys lh) 5, .vec ap cp 1 (bys lp) 5, .vec aq cq 1 (bys lq) 5, .vec ao25 cp26 1 (bys (lr ++ lb)) 5, .vec av cv 1 (bys lv) 5]) rfl ?_
    intro ac35 wo36  En37 Hv38
    refine from_end (by kernel_rfl) ?_
    refine then_normal ?_
    refine region_from ?_  -- region 3
    refine d_pures [(2, .slice ab (List.length lb) cb), (6, .pointer (some ⟨b, 9, none⟩)), (7, .pointer (some ⟨b, 2, none⟩)), (34, .pointer (some ⟨b, 2, none⟩)), (37, .pointer (some ⟨b, 2, none⟩))] [.pointer (some ⟨b, 2, none⟩), .pointer (some ⟨b, 2, none⟩), .pointer (some ⟨b, 2, none⟩), .pointer (some ⟨b, 2, none⟩)] 4 En37 (by kernel_rfl) (by kernel_rfl) rfl ?_
    intro ac39 En40
    refine from_op (by kernel_rfl) ?_
    refine op_loadbox (d := some 38) (t := 22) (b := b) (off := 2) (k := 0) (v := .slice ad (List.length ld) cd) En40 (by kernel_rfl) Hv38 rfl rfl (by kernel_rfl) ?_
    intro ac41 En42
    refine d_pures [(2, .slice ab (List.length lb) cb), (6, .pointer (some ⟨b, 9, none⟩)), (7, .pointer (some ⟨b, 2, none⟩)), (34, .pointer (some ⟨b, 2, none⟩)), (38, .slice ad (List.length ld) cd), (39, .slice ab (List.length lb) cb)] [.slice ab (List.length lb) cb] 6 En42 (by kernel_rfl) (by kernel_rfl) rfl ?_
    intro ac43 En44
    refine from_op (by kernel_rfl) ?_
    have hsm45 := ib.small
    refine op_append (d := some 40) (t := 22) (tx := 22) (ty := 22) (k := 2) (p := List.length ld) (m := List.length lb) (x := .slice ab (List.length lb) cb) (bytes := 1) En44 (by kernel_rfl) Hv38 rfl (bys_len _) (Reads.src (size := 1) (tx := 22) (e' := 5) (by kernel_rfl) (ib.ev Hv38).reads (bys_len _) ib.nz (bys_one _)) (by kernel_rfl) (z := .int .u8 0) (by kernel_rfl) rfl (by decide) (by omega) (by unfold maxLen; omega) ?_
    intro ac50 wo51 ao46 cp47 En52 Hv53 _ _
    rw [← bys_append] at Hv53
    have ehz48 : (List.length ld) + (List.length lb) = List.length (ld ++ lb) := (by first | (simp; done) | (simp; omega) | omega)
    rw [ehz48] at En52
    refine d_pures [(2, .slice ab (List.length lb) cb), (6, .pointer (some ⟨b, 9, none⟩)), (7, .pointer (some ⟨b, 2, none⟩)), (40, .slice ao46 (List.length (ld ++ lb)) cp47), (42, .pointer (some ⟨b, 2, none⟩))] [.pointer (some ⟨b, 2, none⟩), .pointer (some ⟨b, 2, none⟩)] 9 En52 (by kernel_rfl) (by kernel_rfl) rfl ?_
    intro ac54 En55
    refine from_op (by kernel_rfl) ?_
    refine op_storebox2 (d := none) (t := 22) (b := b) (off := 2) (k := 0) (v := .slice ao46 (List.length (ld ++ lb)) cp47) En55 (by kernel_rfl) Hv53 rfl rfl (by kernel_rfl) rfl rfl (L' := [.box b [.slice au (List.length lu) cu, .bool fc, .slice ao46 (List.length (ld ++ lb)) cp47, .bool bc, .slice ah (List.length lh) ch, .slice ap (List.length lp) cp, .slice aq (List.length lq) cq, .bool fc, .bool fe, .slice ao25 (List.length (lr ++ lb)) cp26, .slice av (List.length lv) cv, .bool bc, .bool be] 66, .vec au cu 1 (bys lu) 5, .vec ao46 cp47 1 (bys (ld ++ lb)) 5, .vec ah ch 1 (bys lh) 5, .vec ap cp 1 (bys lp) 5, .vec aq cq 1 (bys lq) 5, .vec ao25 cp26 1 (bys (lr ++ lb)) 5, .vec av cv 1 (bys lv) 5]) rfl ?_
    intro ac56 wo57  En58 Hv59
    refine from_end (by kernel_rfl) ?_
    refine d_end0 En58 (by kernel_rfl) ?_
    exact ⟨au, ao46, ah, ap, aq, ao25, av, cu, cp47, ch, cp, cq, cp26, cv, lu, (ld ++ lb), lh, lp, lq, (lr ++ lb), lv, fc, fe, bc, be, rfl, Hv59.pick [0, 1, 2, 3, 4, 5, 6, 7] (by kernel_rfl) (by decide), by simp [Rel.write, hc17]⟩
  ·
    replace hc17 : bc = true := by simpa using hc17
    refine wp_skip ?_
    refine d_end0 En16 (by kernel_rfl) ?_
    exact ⟨au, ad, ah, ap, aq, ar, av, cu, cd, ch, cp, cq, cr, cv, lu, ld, lh, lp, lq, lr, lv, fc, fe, bc, be, rfl, Hv7.pick [0, 1, 2, 3, 4, 5, 6, 7] (by kernel_rfl) (by decide), by simp [Rel.write, hc17]⟩

theorem xwritex (w : World) (b : Nat) (au ad ah ap aq ar av : Option Addr) (cu cd ch cp cq cr cv : Nat) (lu ld lh lp lq lr lv : List UInt8) (fc fe bc be : Bool) (ab : Option Addr) (nb cb : Nat) (lb : List UInt8) (eb : nb = List.length lb) (ib : InB w [.box b [.slice au (List.length lu) cu, .bool fc, .slice ad (List.length ld) cd, .bool bc, .slice ah (List.length lh) ch, .slice ap (List.length lp) cp, .slice aq (List.length lq) cq, .bool fc, .bool fe, .slice ar (List.length lr) cr, .slice av (List.length lv) cv, .bool bc, .bool be] 66, .vec au cu 1 (bys lu) 5, .vec ad cd 1 (bys ld) 5, .vec ah ch 1 (bys lh) 5, .vec ap cp 1 (bys lp) 5, .vec aq cq 1 (bys lq) 5, .vec ar cr 1 (bys lr) 5, .vec av cv 1 (bys lv) 5] ab cb lb) (sd : Int) (h1 : ¬ sd = 1) (h2 : ¬ sd = 2) (hH : Heap w [.box b [.slice au (List.length lu) cu, .bool fc, .slice ad (List.length ld) cd, .bool bc, .slice ah (List.length lh) ch, .slice ap (List.length lp) cp, .slice aq (List.length lq) cq, .bool fc, .bool fe, .slice ar (List.length lr) cr, .slice av (List.length lv) cv, .bool bc, .bool be] 66, .vec au cu 1 (bys lu) 5, .vec ad cd 1 (bys ld) 5, .vec ah ch 1 (bys lh) 5, .vec ap cp 1 (bys lp) 5, .vec aq cq 1 (bys lq) 5, .vec ar cr 1 (bys lr) 5, .vec av cv 1 (bys lv) 5]) (hS : List.length lu + List.length ld + List.length lh + List.length lp + List.length lq + List.length lr + List.length lv + List.length lb ≤ 140737488351232) : Calls Try.prog 19 #[.pointer (some ⟨b, 0, none⟩), .int .i64 sd, .slice ab nb cb] w fun e w' => ∃ au0 ad0 ah0 ap0 aq0 ar0 av0, ∃ cu0 cd0 ch0 cp0 cq0 cr0 cv0, ∃ (lu0 : List UInt8) (ld0 : List UInt8) (lh0 : List UInt8) (lp0 : List UInt8) (lq0 : List UInt8) (lr0 : List UInt8) (lv0 : List UInt8), ∃ (fc0 : Bool) (fe0 : Bool) (bc0 : Bool) (be0 : Bool), e = .returned (.tuple #[]) ∧ Ev w [.box b [.slice au (List.length lu) cu, .bool fc, .slice ad (List.length ld) cd, .bool bc, .slice ah (List.length lh) ch, .slice ap (List.length lp) cp, .slice aq (List.length lq) cq, .bool fc, .bool fe, .slice ar (List.length lr) cr, .slice av (List.length lv) cv, .bool bc, .bool be] 66, .vec au cu 1 (bys lu) 5, .vec ad cd 1 (bys ld) 5, .vec ah ch 1 (bys lh) 5, .vec ap cp 1 (bys lp) 5, .vec aq cq 1 (bys lq) 5, .vec ar cr 1 (bys lr) 5, .vec av cv 1 (bys lv) 5] w' [.box b [.slice au0 (List.length lu0) cu0, .bool fc0, .slice ad0 (List.length ld0) cd0, .bool bc0, .slice ah0 (List.length lh0) ch0, .slice ap0 (List.length lp0) cp0, .slice aq0 (List.length lq0) cq0, .bool fc0, .bool fe0, .slice ar0 (List.length lr0) cr0, .slice av0 (List.length lv0) cv0, .bool bc0, .bool be0] 66, .vec au0 cu0 1 (bys lu0) 5, .vec ad0 cd0 1 (bys ld0) 5, .vec ah0 ch0 1 (bys lh0) 5, .vec ap0 cp0 1 (bys lp0) 5, .vec aq0 cq0 1 (bys lq0) 5, .vec ar0 cr0 1 (bys lr0) 5, .vec av0 cv0 1 (bys lv0) 5] ∧ (⟨lu0, ld0, lh0, lp0, lq0, fc0, fe0, lr0, lv0, bc0, be0⟩ : Rel) = Rel.write (⟨lu, ld, lh, lp, lq, fc, fe, lr, lv, bc, be⟩ : Rel) sd lb := by
  subst eb
  have hsb := ib.small
  have hcb := ib.cap
  refine d_start [(0, .pointer (some ⟨b, 0, none⟩)), (1, .int .i64 sd), (2, .slice ab (List.length lb) cb)] 43 Go.Proofs.Try.func19 Go.Proofs.Try.ntmps19 rfl (by kernel_rfl) (by kernel_rfl) ?_
  intro act0 En0
  have Hv0 : Ev w [.box b [.slice au (List.length lu) cu, .bool fc, .slice ad (List.length ld) cd, .bool bc, .slice ah (List.length lh) ch, .slice ap (List.length lp) cp, .slice aq (List.length lq) cq, .bool fc, .bool fe, .slice ar (List.length lr) cr, .slice av (List.length lv) cv, .bool bc, .bool be] 66, .vec au cu 1 (bys lu) 5, .vec ad cd 1 (bys ld) 5, .vec ah ch 1 (bys lh) 5, .vec ap cp 1 (bys lp) 5, .vec aq cq 1 (bys lq) 5, .vec ar cr 1 (bys lr) 5, .vec av cv 1 (bys lv) 5] w [.box b [.slice au (List.length lu) cu, .bool fc, .slice ad (List.length ld) cd, .bool bc, .slice ah (List.length lh) ch, .slice ap (List.length lp) cp, .slice aq (List.length lq) cq, .bool fc, .bool fe, .slice ar (List.length lr) cr, .slice av (List.length lv) cv, .bool bc, .bool be] 66, .vec au cu 1 (bys lu) 5, .vec ad cd 1 (bys ld) 5, .vec ah ch 1 (bys lh) 5, .vec ap cp 1 (bys lp) 5, .vec aq cq 1 (bys lq) 5, .vec ar cr 1 (bys lr) 5, .vec av cv 1 (bys lv) 5] := Ev.refl (hH)
  refine wp_seq ?_
  refine region_from ?_  -- region 0
  refine d_pures [(2, .slice ab (List.length lb) cb), (10, .pointer (some ⟨b, 0, none⟩)), (11, .int .i64 sd)] [.pointer (some ⟨b, 0, none⟩), .int .i64 sd] 2 En0 (by kernel_rfl) (by kernel_rfl) rfl ?_
  intro ac1 En2
  refine from_op (by kernel_rfl) ?_
  have hM3 : Heap w [] := Hv0.heap.pick [] (by kernel_rfl) (by decide)
  refine op_call (d := some 12) (f := 36) (args := #[.pointer (some ⟨b, 0, none⟩), .int .i64 sd]) En2 (by kernel_rfl) ((endx _ b sd h1 h2).mono ?_)
  rintro _ wo5 ⟨rfl, he8⟩
  refine ⟨_, rfl, ?_⟩
  intro ac4 En6
  have Hv7 : Ev w [.box b [.slice au (List.length lu) cu, .bool fc, .slice ad (List.length ld) cd, .bool bc, .slice ah (List.length lh) ch, .slice ap (List.length lp) cp, .slice aq (List.length lq) cq, .bool fc, .bool fe, .slice ar (List.length lr) cr, .slice av (List.length lv) cv, .bool bc, .bool be] 66, .vec au cu 1 (bys lu) 5, .vec ad cd 1 (bys ld) 5, .vec ah ch 1 (bys lh) 5, .vec ap cp 1 (bys lp) 5, .vec aq cq 1 (bys lq) 5, .vec ar cr 1 (bys lr) 5, .vec av cv 1 (bys lv) 5] wo5 [.box b [.slice au (List.length lu) cu, .bool fc, .slice ad (List.length ld) cd, .bool bc, .slice ah (List.length lh) ch, .slice ap (List.length lp) cp, .slice aq (List.length lq) cq, .bool fc, .bool fe, .slice ar (List.length lr) cr, .slice av (List.length lv) cv, .bool bc, .bool be] 66, .vec au cu 1 (bys lu) 5, .vec ad cd 1 (bys ld) 5, .vec ah ch 1 (bys lh) 5, .vec ap cp 1 (bys lp) 5, .vec aq cq 1 (bys lq) 5, .vec ar cr 1 (bys lr) 5, .vec av cv 1 (bys lv) 5] := Hv0.trans (Ev.call (R := [.box b [.slice au (List.length lu) cu, .bool fc, .slice ad (List.length ld) cd, .bool bc, .slice ah (List.length lh) ch, .slice ap (List.length lp) cp, .slice aq (List.length lq) cq, .bool fc, .bool fe, .slice ar (List.length lr) cr, .slice av (List.length lv) cv, .bool bc, .bool be] 66, .vec au cu 1 (bys lu) 5, .vec ad cd 1 (bys ld) 5, .vec ah ch 1 (bys lh) 5, .vec ap cp 1 (bys lp) 5, .vec aq cq 1 (bys lq) 5, .vec ar cr 1 (bys lr) 5, .vec av cv 1 (bys lv) 5]) Hv0.heap [0, 1, 2, 3, 4, 5, 6, 7] (by kernel_rfl) (by decide) he8)
  clear hM3 he8
  refine d_pures [(2, .slice ab (List.length lb) cb), (6, .pointer none), (7, .pointer none)] [.tuple #[.pointer none, .pointer none, .pointer none], .pointer none, .pointer none, .pointer none, .pointer none, .pointer none, .pointer none] 10 En6 (by kernel_rfl) (by kernel_rfl) rfl ?_
  intro ac9 En10
  refine from_end (by kernel_rfl) ?_
  refine then_normal ?_
  refine wp_seq ?_
  refine region_from ?_  -- region 1
  refine d_pures [(2, .slice ab (List.length lb) cb), (6, .pointer none), (7, .pointer none), (24, .bool false)] [.pointer none, .bool false, .bool false, undef, undef, undef, undef, undef, .bool false] 9 En10 (by kernel_rfl) (by kernel_rfl) rfl ?_
  intro ac11 En12
  refine from_end (by kernel_rfl) ?_
  refine then_normal ?_
  refine cond_false En12 (t := false) (by kernel_rfl) rfl ?_
  refine wp_skip ?_
  refine d_end0 En12 (by kernel_rfl) ?_
  exact ⟨au, ad, ah, ap, aq, ar, av, cu, cd, ch, cp, cq, cr, cv, lu, ld, lh, lp, lq, lr, lv, fc, fe, bc, be, rfl, Hv7.pick [0, 1, 2, 3, 4, 5, 6, 7] (by kernel_rfl) (by decide), by simp [Rel.write, h1, h2]⟩

theorem xwrite (w : World) (b : Nat) (au ad ah ap aq ar av : Option Addr) (cu cd ch cp cq cr cv : Nat) (lu ld lh lp lq lr lv : List UInt8) (fc fe bc be : Bool) (ab : Option Addr) (nb cb : Nat) (lb : List UInt8) (eb : nb = List.length lb) (ib : InB w [.box b [.slice au (List.length lu) cu, .bool fc, .slice ad (List.length ld) cd, .bool bc, .slice ah (List.length lh) ch, .slice ap (List.length lp) cp, .slice aq (List.length lq) cq, .bool fc, .bool fe, .slice ar (List.length lr) cr, .slice av (List.length lv) cv, .bool bc, .bool be] 66, .vec au cu 1 (bys lu) 5, .vec ad cd 1 (bys ld) 5, .vec ah ch 1 (bys lh) 5, .vec ap cp 1 (bys lp) 5, .vec aq cq 1 (bys lq) 5, .vec ar cr 1 (bys lr) 5, .vec av cv 1 (bys lv) 5] ab cb lb) (sd : Int) (hH : Heap w [.box b [.slice au (List.length lu) cu, .bool fc, .slice ad (List.length ld) cd, .bool bc, .slice ah (List.length lh) ch, .slice ap (List.length lp) cp, .slice aq (List.length lq) cq, .bool fc, .bool fe, .slice ar (List.length lr) cr, .slice av (List.length lv) cv, .bool bc, .bool be] 66, .vec au cu 1 (bys lu) 5, .vec ad cd 1 (bys ld) 5, .vec ah ch 1 (bys lh) 5, .vec ap cp 1 (bys lp) 5, .vec aq cq 1 (bys lq) 5, .vec ar cr 1 (bys lr) 5, .vec av cv 1 (bys lv) 5]) (hS : List.length lu + List.length ld + List.length lh + List.length lp + List.length lq + List.length lr + List.length lv + List.length lb ≤ 140737488351232) : Calls Try.prog 19 #[.pointer (some ⟨b, 0, none⟩), .int .i64 sd, .slice ab nb cb] w fun e w' => ∃ au0 ad0 ah0 ap0 aq0 ar0 av0, ∃ cu0 cd0 ch0 cp0 cq0 cr0 cv0, ∃ (lu0 : List UInt8) (ld0 : List UInt8) (lh0 : List UInt8) (lp0 : List UInt8) (lq0 : List UInt8) (lr0 : List UInt8) (lv0 : List UInt8), ∃ (fc0 : Bool) (fe0 : Bool) (bc0 : Bool) (be0 : Bool), e = .returned (.tuple #[]) ∧ Ev w [.box b [.slice au (List.length lu) cu, .bool fc, .slice ad (List.length ld) cd, .bool bc, .slice ah (List.length lh) ch, .slice ap (List.length lp) cp, .slice aq (List.length lq) cq, .bool fc, .bool fe, .slice ar (List.length lr) cr, .slice av (List.length lv) cv, .bool bc, .bool be] 66, .vec au cu 1 (bys lu) 5, .vec ad cd 1 (bys ld) 5, .vec ah ch 1 (bys lh) 5, .vec ap cp 1 (bys lp) 5, .vec aq cq 1 (bys lq) 5, .vec ar cr 1 (bys lr) 5, .vec av cv 1 (bys lv) 5] w' [.box b [.slice au0 (List.length lu0) cu0, .bool fc0, .slice ad0 (List.length ld0) cd0, .bool bc0, .slice ah0 (List.length lh0) ch0, .slice ap0 (List.length lp0) cp0, .slice aq0 (List.length lq0) cq0, .bool fc0, .bool fe0, .slice ar0 (List.length lr0) cr0, .slice av0 (List.length lv0) cv0, .bool bc0, .bool be0] 66, .vec au0 cu0 1 (bys lu0) 5, .vec ad0 cd0 1 (bys ld0) 5, .vec ah0 ch0 1 (bys lh0) 5, .vec ap0 cp0 1 (bys lp0) 5, .vec aq0 cq0 1 (bys lq0) 5, .vec ar0 cr0 1 (bys lr0) 5, .vec av0 cv0 1 (bys lv0) 5] ∧ (⟨lu0, ld0, lh0, lp0, lq0, fc0, fe0, lr0, lv0, bc0, be0⟩ : Rel) = Rel.write (⟨lu, ld, lh, lp, lq, fc, fe, lr, lv, bc, be⟩ : Rel) sd lb := by
  by_cases h1 : sd = 1
  · subst h1; exact xwrite1 w b au ad ah ap aq ar av cu cd ch cp cq cr cv lu ld lh lp lq lr lv fc fe bc be ab nb cb lb eb ib hH hS
  · by_cases h2 : sd = 2
    · subst h2; exact xwrite2 w b au ad ah ap aq ar av cu cd ch cp cq cr cv lu ld lh lp lq lr lv fc fe bc be ab nb cb lb eb ib hH hS
    · exact xwritex w b au ad ah ap aq ar av cu cd ch cp cq cr cv lu ld lh lp lq lr lv fc fe bc be ab nb cb lb eb ib sd h1 h2 hH hS
theorem xclose1 (w : World) (b : Nat) (au ad ah ap aq ar av : Option Addr) (cu cd ch cp cq cr cv : Nat) (lu ld lh lp lq lr lv : List UInt8) (fc fe bc be : Bool)  (hH : Heap w [.box b [.slice au (List.length lu) cu, .bool fc, .slice ad (List.length ld) cd, .bool bc, .slice ah (List.length lh) ch, .slice ap (List.length lp) cp, .slice aq (List.length lq) cq, .bool fc, .bool fe, .slice ar (List.length lr) cr, .slice av (List.length lv) cv, .bool bc, .bool be] 66, .vec au cu 1 (bys lu) 5, .vec ad cd 1 (bys ld) 5, .vec ah ch 1 (bys lh) 5, .vec ap cp 1 (bys lp) 5, .vec aq cq 1 (bys lq) 5, .vec ar cr 1 (bys lr) 5, .vec av cv 1 (bys lv) 5]) (hS : List.length lu + List.length ld + List.length lh + List.length lp + List.length lq + List.length lr + List.length lv ≤ 140737488351232) : Calls Try.prog 23 #[.pointer (some ⟨b, 0, none⟩), .int .i64 1] w fun e w' => ∃ au0 ad0 ah0 ap0 aq0 ar0 av0, ∃ cu0 cd0 ch0 cp0 cq0 cr0 cv0, ∃ (lu0 : List UInt8) (ld0 : List UInt8) (lh0 : List UInt8) (lp0 : List UInt8) (lq0 : List UInt8) (lr0 : List UInt8) (lv0 : List UInt8), ∃ (fc0 : Bool) (fe0 : Bool) (bc0 : Bool) (be0 : Bool), e = .returned (.tuple #[]) ∧ Ev w [.box b [.slice au (List.length lu) cu, .bool fc, .slice ad (List.length ld) cd, .bool bc, .slice ah (List.length lh) ch, .slice ap (List.length lp) cp, .slice aq (List.length lq) cq, .bool fc, .bool fe, .slice ar (List.length lr) cr, .slice av (List.length lv) cv, .bool bc, .bool be] 66, .vec au cu 1 (bys lu) 5, .vec ad cd 1 (bys ld) 5, .vec ah ch 1 (bys lh) 5, .vec ap cp 1 (bys lp) 5, .vec aq cq 1 (bys lq) 5, .vec ar cr 1 (bys lr) 5, .vec av cv 1 (bys lv) 5] w' [.box b [.slice au0 (List.length lu0) cu0, .bool fc0, .slice ad0 (List.length ld0) cd0, .bool bc0, .slice ah0 (List.length lh0) ch0, .slice ap0 (List.length lp0) cp0, .slice aq0 (List.length lq0) cq0, .bool fc0, .bool fe0, .slice ar0 (List.length lr0) cr0, .slice av0 (List.length lv0) cv0, .bool bc0, .bool be0] 66, .vec au0 cu0 1 (bys lu0) 5, .vec ad0 cd0 1 (bys ld0) 5, .vec ah0 ch0 1 (bys lh0) 5, .vec ap0 cp0 1 (bys lp0) 5, .vec aq0 cq0 1 (bys lq0) 5, .vec ar0 cr0 1 (bys lr0) 5, .vec av0 cv0 1 (bys lv0) 5] ∧ (⟨lu0, ld0, lh0, lp0, lq0, fc0, fe0, lr0, lv0, bc0, be0⟩ : Rel) = Rel.close (⟨lu, ld, lh, lp, lq, fc, fe, lr, lv, bc, be⟩ : Rel) 1 := by
  refine d_start [(0, .pointer (some ⟨b, 0, none⟩)), (1, .int .i64 1)] 22 Go.Proofs.Try.func23 Go.Proofs.Try.ntmps23 rfl (by kernel_rfl) (by kernel_rfl) ?_
  intro act0 En0
  have Hv0 : Ev w [.box b [.slice au (List.length lu) cu, .bool fc, .slice ad (List.length ld) cd, .bool bc, .slice ah (List.length lh) ch, .slice ap (List.length lp) cp, .slice aq (List.length lq) cq, .bool fc, .bool fe, .slice ar (List.length lr) cr, .slice av (List.length lv) cv, .bool bc, .bool be] 66, .vec au cu 1 (bys lu) 5, .vec ad cd 1 (bys ld) 5, .vec ah ch 1 (bys lh) 5, .vec ap cp 1 (bys lp) 5, .vec aq cq 1 (bys lq) 5, .vec ar cr 1 (bys lr) 5, .vec av cv 1 (bys lv) 5] w [.box b [.slice au (List.length lu) cu, .bool fc, .slice ad (List.length ld) cd, .bool bc, .slice ah (List.length lh) ch, .slice ap (List.length lp) cp, .slice aq (List.length lq) cq, .bool fc, .bool fe, .slice ar (List.length lr) cr, .slice av (List.length lv) cv, .bool bc, .bool be] 66, .vec au cu 1 (bys lu) 5, .vec ad cd 1 (bys ld) 5, .vec ah ch 1 (bys lh) 5, .vec ap cp 1 (bys lp) 5, .vec aq cq 1 (bys lq) 5, .vec ar cr 1 (bys lr) 5, .vec av cv 1 (bys lv) 5] := Ev.refl (hH)
  refine wp_seq ?_
  refine region_from ?_  -- region 0
  refine d_pures [(8, .pointer (some ⟨b, 0, none⟩)), (9, .int .i64 1)] [.pointer (some ⟨b, 0, none⟩), .int .i64 1] 2 En0 (by kernel_rfl) (by kernel_rfl) rfl ?_
  intro ac1 En2
  refine from_op (by kernel_rfl) ?_
  have hM3 : Heap w [] := Hv0.heap.pick [] (by kernel_rfl) (by decide)
  refine op_call (d := some 10) (f := 36) (args := #[.pointer (some ⟨b, 0, none⟩), .int .i64 1]) En2 (by kernel_rfl) ((end1 _ b).mono ?_)
  rintro _ wo5 ⟨rfl, he8⟩
  refine ⟨_, rfl, ?_⟩
  intro ac4 En6
  have Hv7 : Ev w [.box b [.slice au (List.length lu) cu, .bool fc, .slice ad (List.length ld) cd, .bool bc, .slice ah (List.length lh) ch, .slice ap (List.length lp) cp, .slice aq (List.length lq) cq, .bool fc, .bool fe, .slice ar (List.length lr) cr, .slice av (List.length lv) cv, .bool bc, .bool be] 66, .vec au cu 1 (bys lu) 5, .vec ad cd 1 (bys ld) 5, .vec ah ch 1 (bys lh) 5, .vec ap cp 1 (bys lp) 5, .vec aq cq 1 (bys lq) 5, .vec ar cr 1 (bys lr) 5, .vec av cv 1 (bys lv) 5] wo5 [.box b [.slice au (List.length lu) cu, .bool fc, .slice ad (List.length ld) cd, .bool bc, .slice ah (List.length lh) ch, .slice ap (List.length lp) cp, .slice aq (List.length lq) cq, .bool fc, .bool fe, .slice ar (List.length lr) cr, .slice av (List.length lv) cv, .bool bc, .bool be] 66, .vec au cu 1 (bys lu) 5, .vec ad cd 1 (bys ld) 5, .vec ah ch 1 (bys lh) 5, .vec ap cp 1 (bys lp) 5, .vec aq cq 1 (bys lq) 5, .vec ar cr 1 (bys lr) 5, .vec av cv 1 (bys lv) 5] := Hv0.trans (Ev.call (R := [.box b [.slice au (List.length lu) cu, .bool fc, .slice ad (List.length ld) cd, .bool bc, .slice ah (List.length lh) ch, .slice ap (List.length lp) cp, .slice aq (List.length lq) cq, .bool fc, .bool fe, .slice ar (List.length lr) cr, .slice av (List.length lv) cv, .bool bc, .bool be] 66, .vec au cu 1 (bys lu) 5, .vec ad cd 1 (bys ld) 5, .vec ah ch 1 (bys lh) 5, .vec ap cp 1 (bys lp) 5, .vec aq cq 1 (bys lq) 5, .vec ar cr 1 (bys lr) 5, .vec av cv 1 (bys lv) 5]) Hv0.heap [0, 1, 2, 3, 4, 5, 6, 7] (by kernel_rfl) (by decide) he8)
  clear hM3 he8
  refine d_pures [(4, .pointer (some ⟨b, 5, none⟩)), (5, .pointer (some ⟨b, 0, none⟩))] [.tuple #[.pointer (some ⟨b, 5, none⟩), .pointer (some ⟨b, 0, none⟩), .pointer (some ⟨b, 2, none⟩)], .pointer (some ⟨b, 5, none⟩), .pointer (some ⟨b, 0, none⟩), .pointer (some ⟨b, 2, none⟩), .pointer (some ⟨b, 5, none⟩), .pointer (some ⟨b, 0, none⟩), .pointer (some ⟨b, 2, none⟩)] 10 En6 (by kernel_rfl) (by kernel_rfl) rfl ?_
  intro ac9 En10
  refine from_end (by kernel_rfl) ?_
  refine then_normal ?_
  refine wp_seq ?_
  refine region_from ?_  -- region 1
  refine d_pures [(4, .pointer (some ⟨b, 5, none⟩)), (5, .pointer (some ⟨b, 0, none⟩)), (15, .bool true)] [.pointer (some ⟨b, 5, none⟩), .bool true] 2 En10 (by kernel_rfl) (by kernel_rfl) rfl ?_
  intro ac11 En12
  refine from_end (by kernel_rfl) ?_
  refine then_normal ?_
  refine cond_true En12 (t := true) (by kernel_rfl) rfl ?_
  refine region_from ?_  -- region 2
  refine d_pures [(4, .pointer (some ⟨b, 5, none⟩)), (17, .pointer (some ⟨b, 0, none⟩)), (19, .pointer (some ⟨b, 7, none⟩))] [.pointer (some ⟨b, 5, none⟩), .pointer (some ⟨b, 0, none⟩), .pointer (some ⟨b, 5, none⟩), .pointer (some ⟨b, 7, none⟩)] 4 En12 (by kernel_rfl) (by kernel_rfl) rfl ?_
  intro ac13 En14
  refine from_op (by kernel_rfl) ?_
  refine op_storebox2 (d := none) (t := 4) (b := b) (off := 7) (k := 0) (v := .bool true) En14 (by kernel_rfl) Hv7 rfl rfl (by kernel_rfl) rfl rfl (L' := [.box b [.slice au (List.length lu) cu, .bool fc, .slice ad (List.length ld) cd, .bool bc, .slice ah (List.length lh) ch, .slice ap (List.length lp) cp, .slice aq (List.length lq) cq, .bool true, .bool fe, .slice ar (List.length lr) cr, .slice av (List.length lv) cv, .bool bc, .bool be] 66, .vec au cu 1 (bys lu) 5, .vec ad cd 1 (bys ld) 5, .vec ah ch 1 (bys lh) 5, .vec ap cp 1 (bys lp) 5, .vec aq cq 1 (bys lq) 5, .vec ar cr 1 (bys lr) 5, .vec av cv 1 (bys lv) 5]) rfl ?_
  intro ac15 wo16  En17 Hv18
  refine d_pures [(4, .pointer (some ⟨b, 5, none⟩)), (21, .pointer (some ⟨b, 1, none⟩))] [.pointer (some ⟨b, 0, none⟩), .pointer (some ⟨b, 1, none⟩)] 7 En17 (by kernel_rfl) (by kernel_rfl) rfl ?_
  intro ac19 En20
  refine from_op (by kernel_rfl) ?_
  refine op_storebox2 (d := none) (t := 4) (b := b) (off := 1) (k := 0) (v := .bool true) En20 (by kernel_rfl) Hv18 rfl rfl (by kernel_rfl) rfl rfl (L' := [.box b [.slice au (List.length lu) cu, .bool true, .slice ad (List.length ld) cd, .bool bc, .slice ah (List.length lh) ch, .slice ap (List.length lp) cp, .slice aq (List.length lq) cq, .bool true, .bool fe, .slice ar (List.length lr) cr, .slice av (List.length lv) cv, .bool bc, .bool be] 66, .vec au cu 1 (bys lu) 5, .vec ad cd 1 (bys ld) 5, .vec ah ch 1 (bys lh) 5, .vec ap cp 1 (bys lp) 5, .vec aq cq 1 (bys lq) 5, .vec ar cr 1 (bys lr) 5, .vec av cv 1 (bys lv) 5]) rfl ?_
  intro ac21 wo22  En23 Hv24
  refine from_end (by kernel_rfl) ?_
  refine d_end0 En23 (by kernel_rfl) ?_
  exact ⟨au, ad, ah, ap, aq, ar, av, cu, cd, ch, cp, cq, cr, cv, lu, ld, lh, lp, lq, lr, lv, true, fe, bc, be, rfl, Hv24.pick [0, 1, 2, 3, 4, 5, 6, 7] (by kernel_rfl) (by decide), by simp [Rel.close]⟩

theorem xclose2 (w : World) (b : Nat) (au ad ah ap aq ar av : Option Addr) (cu cd ch cp cq cr cv : Nat) (lu ld lh lp lq lr lv : List UInt8) (fc fe bc be : Bool)  (hH : Heap w [.box b [.slice au (List.length lu) cu, .bool fc, .slice ad (List.length ld) cd, .bool bc, .slice ah (List.length lh) ch, .slice ap (List.length lp) cp, .slice aq (List.length lq) cq, .bool fc, .bool fe, .slice ar (List.length lr) cr, .slice av (List.length lv) cv, .bool bc, .bool be] 66, .vec au cu 1 (bys lu) 5, .vec ad cd 1 (bys ld) 5, .vec ah ch 1 (bys lh) 5, .vec ap cp 1 (bys lp) 5, .vec aq cq 1 (bys lq) 5, .vec ar cr 1 (bys lr) 5, .vec av cv 1 (bys lv) 5]) (hS : List.length lu + List.length ld + List.length lh + List.length lp + List.length lq + List.length lr + List.length lv ≤ 140737488351232) : Calls Try.prog 23 #[.pointer (some ⟨b, 0, none⟩), .int .i64 2] w fun e w' => ∃ au0 ad0 ah0 ap0 aq0 ar0 av0, ∃ cu0 cd0 ch0 cp0 cq0 cr0 cv0, ∃ (lu0 : List UInt8) (ld0 : List UInt8) (lh0 : List UInt8) (lp0 : List UInt8) (lq0 : List UInt8) (lr0 : List UInt8) (lv0 : List UInt8), ∃ (fc0 : Bool) (fe0 : Bool) (bc0 : Bool) (be0 : Bool), e = .returned (.tuple #[]) ∧ Ev w [.box b [.slice au (List.length lu) cu, .bool fc, .slice ad (List.length ld) cd, .bool bc, .slice ah (List.length lh) ch, .slice ap (List.length lp) cp, .slice aq (List.length lq) cq, .bool fc, .bool fe, .slice ar (List.length lr) cr, .slice av (List.length lv) cv, .bool bc, .bool be] 66, .vec au cu 1 (bys lu) 5, .vec ad cd 1 (bys ld) 5, .vec ah ch 1 (bys lh) 5, .vec ap cp 1 (bys lp) 5, .vec aq cq 1 (bys lq) 5, .vec ar cr 1 (bys lr) 5, .vec av cv 1 (bys lv) 5] w' [.box b [.slice au0 (List.length lu0) cu0, .bool fc0, .slice ad0 (List.length ld0) cd0, .bool bc0, .slice ah0 (List.length lh0) ch0, .slice ap0 (List.length lp0) cp0, .slice aq0 (List.length lq0) cq0, .bool fc0, .bool fe0, .slice ar0 (List.length lr0) cr0, .slice av0 (List.length lv0) cv0, .bool bc0, .bool be0] 66, .vec au0 cu0 1 (bys lu0) 5, .vec ad0 cd0 1 (bys ld0) 5, .vec ah0 ch0 1 (bys lh0) 5, .vec ap0 cp0 1 (bys lp0) 5, .vec aq0 cq0 1 (bys lq0) 5, .vec ar0 cr0 1 (bys lr0) 5, .vec av0 cv0 1 (bys lv0) 5] ∧ (⟨lu0, ld0, lh0, lp0, lq0, fc0, fe0, lr0, lv0, bc0, be0⟩ : Rel) = Rel.close (⟨lu, ld, lh, lp, lq, fc, fe, lr, lv, bc, be⟩ : Rel) 2 := by
  refine d_start [(0, .pointer (some ⟨b, 0, none⟩)), (1, .int .i64 2)] 22 Go.Proofs.Try.func23 Go.Proofs.Try.ntmps23 rfl (by kernel_rfl) (by kernel_rfl) ?_
  intro act0 En0
  have Hv0 : Ev w [.box b [.slice au (List.length lu) cu, .bool fc, .slice ad (List.length ld) cd, .bool bc, .slice ah (List.length lh) ch, .slice ap (List.length lp) cp, .slice aq (List.length lq) cq, .bool fc, .bool fe, .slice ar (List.length lr) cr, .slice av (List.length lv) cv, .bool bc, .bool be] 66, .vec au cu 1 (bys lu) 5, .vec ad cd 1 (bys ld) 5, .vec ah ch 1 (bys lh) 5, .vec ap cp 1 (bys lp) 5, .vec aq cq 1 (bys lq) 5, .vec ar cr 1 (bys lr) 5, .vec av cv 1 (bys lv) 5] w [.box b [.slice au (List.length lu) cu, .bool fc, .slice ad (List.length ld) cd, .bool bc, .slice ah (List.length lh) ch, .slice ap (List.length lp) cp, .slice aq (List.length lq) cq, .bool fc, .bool fe, .slice ar (List.length lr) cr, .slice av (List.length lv) cv, .bool bc, .bool be] 66, .vec au cu 1 (bys lu) 5, .vec ad cd 1 (bys ld) 5, .vec ah ch 1 (bys lh) 5, .vec ap cp 1 (bys lp) 5, .vec aq cq 1 (bys lq) 5, .vec ar cr 1 (bys lr) 5, .vec av cv 1 (bys lv) 5] := Ev.refl (hH)
  refine wp_seq ?_
  refine region_from ?_  -- region 0
  refine d_pures [(8, .pointer (some ⟨b, 0, none⟩)), (9, .int .i64 2)] [.pointer (some ⟨b, 0, none⟩), .int .i64 2] 2 En0 (by kernel_rfl) (by kernel_rfl) rfl ?_
  intro ac1 En2
  refine from_op (by kernel_rfl) ?_
  have hM3 : Heap w [] := Hv0.heap.pick [] (by kernel_rfl) (by decide)
  refine op_call (d := some 10) (f := 36) (args := #[.pointer (some ⟨b, 0, none⟩), .int .i64 2]) En2 (by kernel_rfl) ((end2 _ b).mono ?_)
  rintro _ wo5 ⟨rfl, he8⟩
  refine ⟨_, rfl, ?_⟩
  intro ac4 En6
  have Hv7 : Ev w [.box b [.slice au (List.length lu) cu, .bool fc, .slice ad (List.length ld) cd, .bool bc, .slice ah (List.length lh) ch, .slice ap (List.length lp) cp, .slice aq (List.length lq) cq, .bool fc, .bool fe, .slice ar (List.length lr) cr, .slice av (List.length lv) cv, .bool bc, .bool be] 66, .vec au cu 1 (bys lu) 5, .vec ad cd 1 (bys ld) 5, .vec ah ch 1 (bys lh) 5, .vec ap cp 1 (bys lp) 5, .vec aq cq 1 (bys lq) 5, .vec ar cr 1 (bys lr) 5, .vec av cv 1 (bys lv) 5] wo5 [.box b [.slice au (List.length lu) cu, .bool fc, .slice ad (List.length ld) cd, .bool bc, .slice ah (List.length lh) ch, .slice ap (List.length lp) cp, .slice aq (List.length lq) cq, .bool fc, .bool fe, .slice ar (List.length lr) cr, .slice av (List.length lv) cv, .bool bc, .bool be] 66, .vec au cu 1 (bys lu) 5, .vec ad cd 1 (bys ld) 5, .vec ah ch 1 (bys lh) 5, .vec ap cp 1 (bys lp) 5, .vec aq cq 1 (bys lq) 5, .vec ar cr 1 (bys lr) 5, .vec av cv 1 (bys lv) 5] := Hv0.trans (Ev.call (R := [.box b [.slice au (List.length lu) cu, .bool fc, .slice ad (List.length ld) cd, .bool bc, .slice ah (List.length lh) ch, .slice ap (List.length lp) cp, .slice aq (List.length lq) cq, .bool fc, .bool fe, .slice ar (List.length lr) cr, .slice av (List.length lv) cv, .bool bc, .bool be] 66, .vec au cu 1 (bys lu) 5, .vec ad cd 1 (bys ld) 5, .vec ah ch 1 (bys lh) 5, .vec ap cp 1 (bys lp) 5, .vec aq cq 1 (bys lq) 5, .vec ar cr 1 (bys lr) 5, .vec av cv 1 (bys lv) 5]) Hv0.heap [0, 1, 2, 3, 4, 5, 6, 7] (by kernel_rfl) (by decide) he8)
  clear hM3 he8
  refine d_pures [(4, .pointer (some ⟨b, 9, none⟩)), (5, .pointer (some ⟨b, 2, none⟩))] [.tuple #[.pointer (some ⟨b, 9, none⟩), .pointer (some ⟨b, 2, none⟩), .pointer (some ⟨b, 0, none⟩)], .pointer (some ⟨b, 9, none⟩), .pointer (some ⟨b, 2, none⟩), .pointer (some ⟨b, 0, none⟩), .pointer (some ⟨b, 9, none⟩), .pointer (some ⟨b, 2, none⟩), .pointer (some ⟨b, 0, none⟩)] 10 En6 (by kernel_rfl) (by kernel_rfl) rfl ?_
  intro ac9 En10
  refine from_end (by kernel_rfl) ?_
  refine then_normal ?_
  refine wp_seq ?_
  refine region_from ?_  -- region 1
  refine d_pures [(4, .pointer (some ⟨b, 9, none⟩)), (5, .pointer (some ⟨b, 2, none⟩)), (15, .bool true)] [.pointer (some ⟨b, 9, none⟩), .bool true] 2 En10 (by kernel_rfl) (by kernel_rfl) rfl ?_
  intro ac11 En12
  refine from_end (by kernel_rfl) ?_
  refine then_normal ?_
  refine cond_true En12 (t := true) (by kernel_rfl) rfl ?_
  refine region_from ?_  -- region 2
  refine d_pures [(4, .pointer (some ⟨b, 9, none⟩)), (17, .pointer (some ⟨b, 2, none⟩)), (19, .pointer (some ⟨b, 11, none⟩))] [.pointer (some ⟨b, 9, none⟩), .pointer (some ⟨b, 2, none⟩), .pointer (some ⟨b, 9, none⟩), .pointer (some ⟨b, 11, none⟩)] 4 En12 (by kernel_rfl) (by kernel_rfl) rfl ?_
  intro ac13 En14
  refine from_op (by kernel_rfl) ?_
  refine op_storebox2 (d := none) (t := 4) (b := b) (off := 11) (k := 0) (v := .bool true) En14 (by kernel_rfl) Hv7 rfl rfl (by kernel_rfl) rfl rfl (L' := [.box b [.slice au (List.length lu) cu, .bool fc, .slice ad (List.length ld) cd, .bool bc, .slice ah (List.length lh) ch, .slice ap (List.length lp) cp, .slice aq (List.length lq) cq, .bool fc, .bool fe, .slice ar (List.length lr) cr, .slice av (List.length lv) cv, .bool true, .bool be] 66, .vec au cu 1 (bys lu) 5, .vec ad cd 1 (bys ld) 5, .vec ah ch 1 (bys lh) 5, .vec ap cp 1 (bys lp) 5, .vec aq cq 1 (bys lq) 5, .vec ar cr 1 (bys lr) 5, .vec av cv 1 (bys lv) 5]) rfl ?_
  intro ac15 wo16  En17 Hv18
  refine d_pures [(4, .pointer (some ⟨b, 9, none⟩)), (21, .pointer (some ⟨b, 3, none⟩))] [.pointer (some ⟨b, 2, none⟩), .pointer (some ⟨b, 3, none⟩)] 7 En17 (by kernel_rfl) (by kernel_rfl) rfl ?_
  intro ac19 En20
  refine from_op (by kernel_rfl) ?_
  refine op_storebox2 (d := none) (t := 4) (b := b) (off := 3) (k := 0) (v := .bool true) En20 (by kernel_rfl) Hv18 rfl rfl (by kernel_rfl) rfl rfl (L' := [.box b [.slice au (List.length lu) cu, .bool fc, .slice ad (List.length ld) cd, .bool true, .slice ah (List.length lh) ch, .slice ap (List.length lp) cp, .slice aq (List.length lq) cq, .bool fc, .bool fe, .slice ar (List.length lr) cr, .slice av (List.length lv) cv, .bool true, .bool be] 66, .vec au cu 1 (bys lu) 5, .vec ad cd 1 (bys ld) 5, .vec ah ch 1 (bys lh) 5, .vec ap cp 1 (bys lp) 5, .vec aq cq 1 (bys lq) 5, .vec ar cr 1 (bys lr) 5, .vec av cv 1 (bys lv) 5]) rfl ?_
  intro ac21 wo22  En23 Hv24
  refine from_end (by kernel_rfl) ?_
  refine d_end0 En23 (by kernel_rfl) ?_
  exact ⟨au, ad, ah, ap, aq, ar, av, cu, cd, ch, cp, cq, cr, cv, lu, ld, lh, lp, lq, lr, lv, fc, fe, true, be, rfl, Hv24.pick [0, 1, 2, 3, 4, 5, 6, 7] (by kernel_rfl) (by decide), by simp [Rel.close]⟩

theorem xclosex (w : World) (b : Nat) (au ad ah ap aq ar av : Option Addr) (cu cd ch cp cq cr cv : Nat) (lu ld lh lp lq lr lv : List UInt8) (fc fe bc be : Bool)  (sd : Int) (h1 : ¬ sd = 1) (h2 : ¬ sd = 2) (hH : Heap w [.box b [.slice au (List.length lu) cu, .bool fc, .slice ad (List.length ld) cd, .bool bc, .slice ah (List.length lh) ch, .slice ap (List.length lp) cp, .slice aq (List.length lq) cq, .bool fc, .bool fe, .slice ar (List.length lr) cr, .slice av (List.length lv) cv, .bool bc, .bool be] 66, .vec au cu 1 (bys lu) 5, .vec ad cd 1 (bys ld) 5, .vec ah ch 1 (bys lh) 5, .vec ap cp 1 (bys lp) 5, .vec aq cq 1 (bys lq) 5, .vec ar cr 1 (bys lr) 5, .vec av cv 1 (bys lv) 5]) (hS : List.length lu + List.length ld + List.length lh + List.length lp + List.length lq + List.length lr + List.length lv ≤ 140737488351232) : Calls Try.prog 23 #[.pointer (some ⟨b, 0, none⟩), .int .i64 sd] w fun e w' => ∃ au0 ad0 ah0 ap0 aq0 ar0 av0, ∃ cu0 cd0 ch0 cp0 cq0 cr0 cv0, ∃ (lu0 : List UInt8) (ld0 : List UInt8) (lh0 : List UInt8) (lp0 : List UInt8) (lq0 : List UInt8) (lr0 : List UInt8) (lv0 : List UInt8), ∃ (fc0 : Bool) (fe0 : Bool) (bc0 : Bool) (be0 : Bool), e = .returned (.tuple #[]) ∧ Ev w [.box b [.slice au (List.length lu) cu, .bool fc, .slice ad (List.length ld) cd, .bool bc, .slice ah (List.length lh) ch, .slice ap (List.length lp) cp, .slice aq (List.length lq) cq, .bool fc, .bool fe, .slice ar (List.length lr) cr, .slice av (List.length lv) cv, .bool bc, .bool be] 66, .vec au cu 1 (bys lu) 5, .vec ad cd 1 (bys ld) 5, .vec ah ch 1 (bys lh) 5, .vec ap cp 1 (bys lp) 5, .vec aq cq 1 (bys lq) 5, .vec ar cr 1 (bys lr) 5, .vec av cv 1 (bys lv) 5] w' [.box b [.slice au0 (List.length lu0) cu0, .bool fc0, .slice ad0 (List.length ld0) cd0, .bool bc0, .slice ah0 (List.length lh0) ch0, .slice ap0 (List.length lp0) cp0, .slice aq0 (List.length lq0) cq0, .bool fc0, .bool fe0, .slice ar0 (List.length lr0) cr0, .slice av0 (List.length lv0) cv0, .bool bc0, .bool be0] 66, .vec au0 cu0 1 (bys lu0) 5, .vec ad0 cd0 1 (bys ld0) 5, .vec ah0 ch0 1 (bys lh0) 5, .vec ap0 cp0 1 (bys lp0) 5, .vec aq0 cq0 1 (bys lq0) 5, .vec ar0 cr0 1 (bys lr0) 5, .vec av0 cv0 1 (bys lv0) 5] ∧ (⟨lu0, ld0, lh0, lp0, lq0, fc0, fe0, lr0, lv0, bc0, be0⟩ : Rel) = Rel.close (⟨lu, ld, lh, lp, lq, fc, fe, lr, lv, bc, be⟩ : Rel) sd := by
  refine d_start [(0, .pointer (some ⟨b, 0, none⟩)), (1, .int .i64 sd)] 22 Go.Proofs.Try.func23 Go.Proofs.Try.ntmps23 rfl (by kernel_rfl) (by kernel_rfl) ?_
  intro act0 En0
  have Hv0 : Ev w [.box b [.slice au (List.length lu) cu, .bool fc, .slice ad (List.length ld) cd, .bool bc, .slice ah (List.length lh) ch, .slice ap (List.length lp) cp, .slice aq (List.length lq) cq, .bool fc, .bool fe, .slice ar (List.length lr) cr, .slice av (List.length lv) cv, .bool bc, .bool be] 66, .vec au cu 1 (bys lu) 5, .vec ad cd 1 (bys ld) 5, .vec ah ch 1 (bys lh) 5, .vec ap cp 1 (bys lp) 5, .vec aq cq 1 (bys lq) 5, .vec ar cr 1 (bys lr) 5, .vec av cv 1 (bys lv) 5] w [.box b [.slice au (List.length lu) cu, .bool fc, .slice ad (List.length ld) cd, .bool bc, .slice ah (List.length lh) ch, .slice ap (List.length lp) cp, .slice aq (List.length lq) cq, .bool fc, .bool fe, .slice ar (List.length lr) cr, .slice av (List.length lv) cv, .bool bc, .bool be] 66, .vec au cu 1 (bys lu) 5, .vec ad cd 1 (bys ld) 5, .vec ah ch 1 (bys lh) 5, .vec ap cp 1 (bys lp) 5, .vec aq cq 1 (bys lq) 5, .vec ar cr 1 (bys lr) 5, .vec av cv 1 (bys lv) 5] := Ev.refl (hH)
  refine wp_seq ?_
  refine region_from ?_  -- region 0
  refine d_pures [(8, .pointer (some ⟨b, 0, none⟩)), (9, .int .i64 sd)] [.pointer (some ⟨b, 0, none⟩), .int .i64 sd] 2 En0 (by kernel_rfl) (by kernel_rfl) rfl ?_
  intro ac1 En2
  refine from_op (by kernel_rfl) ?_
  have hM3 : Heap w [] := Hv0.heap.pick [] (by kernel_rfl) (by decide)
  refine op_call (d := some 10) (f := 36) (args := #[.pointer (some ⟨b, 0, none⟩), .int .i64 sd]) En2 (by kernel_rfl) ((endx _ b sd h1 h2).mono ?_)
  rintro _ wo5 ⟨rfl, he8⟩
  refine ⟨_, rfl, ?_⟩
  intro ac4 En6
  have Hv7 : Ev w [.box b [.slice au (List.length lu) cu, .bool fc, .slice ad (List.length ld) cd, .bool bc, .slice ah (List.length lh) ch, .slice ap (List.length lp) cp, .slice aq (List.length lq) cq, .bool fc, .bool fe, .slice ar (List.length lr) cr, .slice av (List.length lv) cv, .bool bc, .bool be] 66, .vec au cu 1 (bys lu) 5, .vec ad cd 1 (bys ld) 5, .vec ah ch 1 (bys lh) 5, .vec ap cp 1 (bys lp) 5, .vec aq cq 1 (bys lq) 5, .vec ar cr 1 (bys lr) 5, .vec av cv 1 (bys lv) 5] wo5 [.box b [.slice au (List.length lu) cu, .bool fc, .slice ad (List.length ld) cd, .bool bc, .slice ah (List.length lh) ch, .slice ap (List.length lp) cp, .slice aq (List.length lq) cq, .bool fc, .bool fe, .slice ar (List.length lr) cr, .slice av (List.length lv) cv, .bool bc, .bool be] 66, .vec au cu 1 (bys lu) 5, .vec ad cd 1 (bys ld) 5, .vec ah ch 1 (bys lh) 5, .vec ap cp 1 (bys lp) 5, .vec aq cq 1 (bys lq) 5, .vec ar cr 1 (bys lr) 5, .vec av cv 1 (bys lv) 5] := Hv0.trans (Ev.call (R := [.box b [.slice au (List.length lu) cu, .bool fc, .slice ad (List.length ld) cd, .bool bc, .slice ah (List.length lh) ch, .slice ap (List.length lp) cp, .slice aq (List.length lq) cq, .bool fc, .bool fe, .slice ar (List.length lr) cr, .slice av (List.length lv) cv, .bool bc, .bool be] 66, .vec au cu 1 (bys lu) 5, .vec ad cd 1 (bys ld) 5, .vec ah ch 1 (bys lh) 5, .vec ap cp 1 (bys lp) 5, .vec aq cq 1 (bys lq) 5, .vec ar cr 1 (bys lr) 5, .vec av cv 1 (bys lv) 5]) Hv0.heap [0, 1, 2, 3, 4, 5, 6, 7] (by kernel_rfl) (by decide) he8)
  clear hM3 he8
  refine d_pures [(4, .pointer none), (5, .pointer none)] [.tuple #[.pointer none, .pointer none, .pointer none], .pointer none, .pointer none, .pointer none, .pointer none, .pointer none, .pointer none] 10 En6 (by kernel_rfl) (by kernel_rfl) rfl ?_
  intro ac9 En10
  refine from_end (by kernel_rfl) ?_
  refine then_normal ?_
  refine wp_seq ?_
  refine region_from ?_  -- region 1
  refine d_pures [(4, .pointer none), (5, .pointer none), (15, .bool false)] [.pointer none, .bool false] 2 En10 (by kernel_rfl) (by kernel_rfl) rfl ?_
  intro ac11 En12
  refine from_end (by kernel_rfl) ?_
  refine then_normal ?_
  refine cond_false En12 (t := false) (by kernel_rfl) rfl ?_
  refine wp_skip ?_
  refine d_end0 En12 (by kernel_rfl) ?_
  exact ⟨au, ad, ah, ap, aq, ar, av, cu, cd, ch, cp, cq, cr, cv, lu, ld, lh, lp, lq, lr, lv, fc, fe, bc, be, rfl, Hv7.pick [0, 1, 2, 3, 4, 5, 6, 7] (by kernel_rfl) (by decide), by simp [Rel.close, h1, h2]⟩

theorem xclose (w : World) (b : Nat) (au ad ah ap aq ar av : Option Addr) (cu cd ch cp cq cr cv : Nat) (lu ld lh lp lq lr lv : List UInt8) (fc fe bc be : Bool)  (sd : Int) (hH : Heap w [.box b [.slice au (List.length lu) cu, .bool fc, .slice ad (List.length ld) cd, .bool bc, .slice ah (List.length lh) ch, .slice ap (List.length lp) cp, .slice aq (List.length lq) cq, .bool fc, .bool fe, .slice ar (List.length lr) cr, .slice av (List.length lv) cv, .bool bc, .bool be] 66, .vec au cu 1 (bys lu) 5, .vec ad cd 1 (bys ld) 5, .vec ah ch 1 (bys lh) 5, .vec ap cp 1 (bys lp) 5, .vec aq cq 1 (bys lq) 5, .vec ar cr 1 (bys lr) 5, .vec av cv 1 (bys lv) 5]) (hS : List.length lu + List.length ld + List.length lh + List.length lp + List.length lq + List.length lr + List.length lv ≤ 140737488351232) : Calls Try.prog 23 #[.pointer (some ⟨b, 0, none⟩), .int .i64 sd] w fun e w' => ∃ au0 ad0 ah0 ap0 aq0 ar0 av0, ∃ cu0 cd0 ch0 cp0 cq0 cr0 cv0, ∃ (lu0 : List UInt8) (ld0 : List UInt8) (lh0 : List UInt8) (lp0 : List UInt8) (lq0 : List UInt8) (lr0 : List UInt8) (lv0 : List UInt8), ∃ (fc0 : Bool) (fe0 : Bool) (bc0 : Bool) (be0 : Bool), e = .returned (.tuple #[]) ∧ Ev w [.box b [.slice au (List.length lu) cu, .bool fc, .slice ad (List.length ld) cd, .bool bc, .slice ah (List.length lh) ch, .slice ap (List.length lp) cp, .slice aq (List.length lq) cq, .bool fc, .bool fe, .slice ar (List.length lr) cr, .slice av (List.length lv) cv, .bool bc, .bool be] 66, .vec au cu 1 (bys lu) 5, .vec ad cd 1 (bys ld) 5, .vec ah ch 1 (bys lh) 5, .vec ap cp 1 (bys lp) 5, .vec aq cq 1 (bys lq) 5, .vec ar cr 1 (bys lr) 5, .vec av cv 1 (bys lv) 5] w' [.box b [.slice au0 (List.length lu0) cu0, .bool fc0, .slice ad0 (List.length ld0) cd0, .bool bc0, .slice ah0 (List.length lh0) ch0, .slice ap0 (List.length lp0) cp0, .slice aq0 (List.length lq0) cq0, .bool fc0, .bool fe0, .slice ar0 (List.length lr0) cr0, .slice av0 (List.length lv0) cv0, .bool bc0, .bool be0] 66, .vec au0 cu0 1 (bys lu0) 5, .vec ad0 cd0 1 (bys ld0) 5, .vec ah0 ch0 1 (bys lh0) 5, .vec ap0 cp0 1 (bys lp0) 5, .vec aq0 cq0 1 (bys lq0) 5, .vec ar0 cr0 1 (bys lr0) 5, .vec av0 cv0 1 (bys lv0) 5] ∧ (⟨lu0, ld0, lh0, lp0, lq0, fc0, fe0, lr0, lv0, bc0, be0⟩ : Rel) = Rel.close (⟨lu, ld, lh, lp, lq, fc, fe, lr, lv, bc, be⟩ : Rel) sd := by
  by_cases h1 : sd = 1
  · subst h1; exact xclose1 w b au ad ah ap aq ar av cu cd ch cp cq cr cv lu ld lh lp lq lr lv fc fe bc be hH hS
  · by_cases h2 : sd = 2
    · subst h2; exact xclose2 w b au ad ah ap aq ar av cu cd ch cp cq cr cv lu ld lh lp lq lr lv fc fe bc be hH hS
    · exact xclosex w b au ad ah ap aq ar av cu cd ch cp cq cr cv lu ld lh lp lq lr lv fc fe bc be sd h1 h2 hH hS
end Go.Proofs.Ytjecaljhipfbfaa
