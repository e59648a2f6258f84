/- Layer 2: names. -/
import Derived.Test.YtfeibokonhdgnaaShape
import Derived.Test.YtfeibokonhdgnaaIter
import Derived.Test.YtfeibokonhdgnaaStab
namespace Go.Proofs.Ytfeibokonhdgnaa
open Go.Dbr
set_option maxRecDepth 100000
set_option maxHeartbeats 2000000
set_option linter.unusedVariables false
set_option linter.unusedSimpArgs false

abbrev pt (b : Nat) : Value := .pointer (some (Addr.mk b 0 none))
abbrev ni (n : Nat) : Value := .int .i64 (n : Int)
abbrev Bs := List UInt8
/-- may a byte stand in a name? -/
def goodB (b : UInt8) : Bool := decide (97 ≤ b.toNat ∧ b.toNat ≤ 122 ∨ 48 ≤ b.toNat ∧ b.toNat ≤ 57 ∨ b.toNat = 45 ∨ b.toNat = 95 ∨ b.toNat = 46)
def nmL (s : Bs) : Bool := s.all goodB && (decide (1 ≤ s.length) && decide (s.length ≤ 32))
theorem nm_y {s : Bs} (h : (s.take s.length).all goodB = true) (h1 : 1 ≤ s.length) : nmL s = decide ((s.length : Int) ≤ 32) := by
  rw [List.take_length] at h
  rw [nmL, h, decide_eq_true h1, Bool.true_and, Bool.true_and]
  exact decide_eq_decide.2 (by omega)
theorem nm_0 {s : Bs} (h1 : ¬ 1 ≤ s.length) : nmL s = false := by rw [nmL, decide_eq_false h1, Bool.false_and, Bool.and_false]
theorem nm_l {s : Bs} (h1 : ¬ s.length ≤ 32) : nmL s = false := by rw [nmL, decide_eq_false h1, Bool.and_false, Bool.and_false]
theorem nm_b {s : Bs} {p : Nat} (hp : p < s.length) (h : goodB (s.getD p 0) = false) : nmL s = false := by
  have : s.all goodB = false := by
    rw [List.all_eq_false]
    refine ⟨s.getD p 0, ?_, by rw [h]; decide⟩
    rw [List.getD_eq_getElem?_getD, List.getElem?_eq_getElem hp]
    exact List.getElem_mem hp
  rw [nmL, this, Bool.false_and]
theorem nm_f {s : Bs} (h : (s.take s.length).all goodB = true) (h1 : 1 ≤ s.length) (h2 : s.length ≤ 32) : nmL s = true := by
  rw [nm_y h h1]
  exact decide_eq_true (by omega)
theorem all_next {s : Bs} {p : Nat} (hp : p < s.length) (h : (s.take p).all goodB = true) (g : goodB (s.getD p 0) = true) : (s.take (p + 1)).all goodB = true := by
  rw [List.take_add_one, List.all_append, h, List.getElem?_eq_getElem hp]
  rw [List.getD_eq_getElem?_getD, List.getElem?_eq_getElem hp] at g
  simpa using g
theorem rune_y {s : Bs} {p : Nat} (hp : p < s.length) (h : 97 ≤ (dcd s p).1 ∧ (dcd s p).1 ≤ 122 ∨ 48 ≤ (dcd s p).1 ∧ (dcd s p).1 ≤ 57 ∨ (dcd s p).1 = 45 ∨ (dcd s p).1 = 95 ∨ (dcd s p).1 = 46) :
    (dcd s p).2 = 1 ∧ goodB (s.getD p 0) = true := by
  by_cases hb : (s.getD p 0).toNat < 128
  · rw [dcd_low hp hb] at h ⊢
    exact ⟨rfl, decide_eq_true h⟩
  · have := dcd_high hp hb
    omega
theorem rune_n {s : Bs} {p : Nat} (hp : p < s.length) (h : ¬ (97 ≤ (dcd s p).1 ∧ (dcd s p).1 ≤ 122 ∨ 48 ≤ (dcd s p).1 ∧ (dcd s p).1 ≤ 57 ∨ (dcd s p).1 = 45 ∨ (dcd s p).1 = 95 ∨ (dcd s p).1 = 46)) :
    goodB (s.getD p 0) = false := by
  refine decide_eq_false fun g => ?_
  rw [dcd_low hp (by omega)] at h
  exact h g
theorem good_y {b : UInt8} (h : 97 ≤ b.toNat ∧ b.toNat ≤ 122 ∨ 48 ≤ b.toNat ∧ b.toNat ≤ 57 ∨ b.toNat = 45 ∨ b.toNat = 95 ∨ b.toNat = 46) : goodB b = true := decide_eq_true h
theorem good_n {b : UInt8} (h : ¬ (97 ≤ b.toNat ∧ b.toNat ≤ 122 ∨ 48 ≤ b.toNat ∧ b.toNat ≤ 57 ∨ b.toNat = 45 ∨ b.toNat = 95 ∨ b.toNat = 46)) : goodB b = false := decide_eq_false h

theorem named_go (w : World) (s : List UInt8) (hs : List.length s ≤ 140737488351232) : Calls Try.prog 30 #[.string (bstr s)] w fun e w' => e = .returned (.bool (nmL s)) ∧ Ev w [] w' [] := by
 refine d_0 [(0, .string (bstr s))] 37 Go.Proofs.Try.func30 Go.Proofs.Try.ntmps30 (Heap.nil _) fun act0 En0 Hv0 => ?_
 refine d_s [0,2] [] En0 fun ac1 En2 => ?_
 refine wp_seq ?_
 refine wp_seq ?_
 refine region_from ?_
 refine d_k [0,2,5] [] 1 En2 fun ac3 En4 => ?_
 refine f_o ?_
 refine op_range (d := some 6) (t := 9) (s := s) En4 (by kernel_rfl) (by kernel_rfl) Hv0 fun ac5 wo6 bi7 En8 Hv9 hit10 hib11 => ?_
 refine f_e ?_
 refine then_normal ?_
 refine wp_block ?_
 refine loop_m (fun ms12 ac wo => ∃ (p : Nat), ms12 = (List.length s - p : Nat) ∧ Env ac 37 [(0, .string (bstr s)), (6, pt bi7)] ∧ Ev w [] wo [] ∧ (wo.heap[bi7]? = some (.stringIter (bstr s) p)) ∧ (p ≤ List.length s) ∧ (List.all (List.take p s) goodB = true)) ⟨_, 0, rfl, En8.sub (by kernel_rfl), Hv9.pick [] (by kernel_rfl) (by decide), hit10, (by omega), rfl⟩ ?_
 rintro mm18 ac14 wo15 ⟨p, rfl, En16, Hv17, hit, hpl, hga⟩
 refine wp_seq ?_
 refine region_from ?_
 rcases Nat.lt_or_ge p (List.length s) with hlt19 | hlt19
 ·
  refine f_o ?_
  refine op_next_yes (d := some 7) (t := 0) (s := s) (p := p) En16 (by kernel_rfl) Hv17 hit hib11 hlt19 fun ac20 wo21 En22 Hv23 hit24 => ?_
  refine d_e [0,6,7,8] [] En22 fun ac25 En26 => ?_
  refine then_normal ?_
  refine wp_seq ?_
  refine c_t En26 ?_
  refine wp_skip ?_
  refine then_normal ?_
  refine wp_block ?_
  refine d_s [0,4,6,7] [] En26 fun ac27 En28 => ?_
  refine wp_block ?_
  refine wp_seq ?_
  refine wp_seq ?_
  refine region_from ?_
  refine d_k [0,4,6,7,13] [] 3 En28 fun ac29 En30 => ?_
  rcases Bool.eq_false_or_eq_true (decide ((((dcd s p).1 : Nat) : Int) ≥ (97 : Int))) with hb31 | hb31
  ·
   have En32 := En30.fx (t := 13) (congrArg Value.bool hb31)
   have hp33 : (((dcd s p).1 : Nat) : Int) ≥ (97 : Int) := of_decide_eq_true hb31
   refine d_e [0,4,6,7,10] [] En32 fun ac34 En35 => ?_
   refine then_normal ?_
   refine c_d ((((dcd s p).1 : Nat) : Int) ≤ (122 : Int)) En35 (fun hc36 => ?_) (fun hc36 => ?_)
   ·
    refine wp_skip ?_
    refine then_normal ?_
    refine c_d ((((dcd s p).1 : Nat) : Int) ≤ (122 : Int)) En35 (fun hc37 => ?_) (fun hc37 => ?_)
    ·
     refine wp_skip ?_
     refine block_normal ?_
     refine block_normal ?_
     refine then_normal ?_
     obtain ⟨hw1, hg1⟩ := rune_y (s := s) (p := p) hlt19 (by omega)
     refine ⟨_, ⟨p + 1, rfl, En35.sub (by kernel_rfl), Hv23.pick [] (by kernel_rfl) (by decide), (by rw [← hw1]; exact hit24), (by omega), (all_next hlt19 hga hg1)⟩, ?_⟩
     omega
    ·
     refine d_s [0,2,4,6,7,10] [] En35 fun ac38 En39 => ?_
     refine wp_ret ?_
     refine block_ret ?_
     refine block_ret ?_
     refine then_ret ?_
     refine block_ret ?_
     refine then_ret ?_
     refine d_ret1 (t := 2) (v := .bool false) En39 (by kernel_rfl) (by kernel_rfl) ?_
     have hz := bstr_size s
     first | (rw [nm_b (p := p) hlt19 (rune_n hlt19 (by omega))]; exact ⟨rfl, Hv23.pick [] (by kernel_rfl) (by decide)⟩) | skip
   ·
    refine wp_seq ?_
    refine region_from ?_
    refine d_k [0,4,6,7,10,19] [] 3 En35 fun ac40 En41 => ?_
    rcases Bool.eq_false_or_eq_true (decide ((((dcd s p).1 : Nat) : Int) ≥ (48 : Int))) with hb42 | hb42
    ·
     have En43 := En41.fx (t := 19) (congrArg Value.bool hb42)
     have hp44 : (((dcd s p).1 : Nat) : Int) ≥ (48 : Int) := of_decide_eq_true hb42
     refine d_e [0,4,6,7,10] [] En43 fun ac45 En46 => ?_
     refine then_normal ?_
     refine c_d ((((dcd s p).1 : Nat) : Int) ≤ (57 : Int)) En46 (fun hc47 => ?_) (fun hc47 => ?_)
     ·
      refine wp_skip ?_
      refine then_normal ?_
      refine c_d ((((dcd s p).1 : Nat) : Int) ≤ (57 : Int)) En46 (fun hc48 => ?_) (fun hc48 => ?_)
      ·
       refine wp_skip ?_
       refine block_normal ?_
       refine block_normal ?_
       refine then_normal ?_
       obtain ⟨hw1, hg1⟩ := rune_y (s := s) (p := p) hlt19 (by omega)
       refine ⟨_, ⟨p + 1, rfl, En46.sub (by kernel_rfl), Hv23.pick [] (by kernel_rfl) (by decide), (by rw [← hw1]; exact hit24), (by omega), (all_next hlt19 hga hg1)⟩, ?_⟩
       omega
      ·
       refine d_s [0,2,4,6,7,10] [] En46 fun ac49 En50 => ?_
       refine wp_ret ?_
       refine block_ret ?_
       refine block_ret ?_
       refine then_ret ?_
       refine block_ret ?_
       refine then_ret ?_
       refine d_ret1 (t := 2) (v := .bool false) En50 (by kernel_rfl) (by kernel_rfl) ?_
       have hz := bstr_size s
       first | (rw [nm_b (p := p) hlt19 (rune_n hlt19 (by omega))]; exact ⟨rfl, Hv23.pick [] (by kernel_rfl) (by decide)⟩) | skip
     ·
      refine d_s [0,4,6,7,10] [] En46 fun ac51 En52 => ?_
      refine c_e (((dcd s p).1 : Nat) : Int) (45 : Int) En52 (fun hc53 => ?_) (fun hc53 => ?_)
      ·
       refine wp_skip ?_
       refine then_normal ?_
       refine c_e (((dcd s p).1 : Nat) : Int) (45 : Int) En52 (fun hc54 => ?_) (fun hc54 => ?_)
       ·
        refine wp_skip ?_
        refine block_normal ?_
        refine block_normal ?_
        refine then_normal ?_
        obtain ⟨hw1, hg1⟩ := rune_y (s := s) (p := p) hlt19 (by omega)
        refine ⟨_, ⟨p + 1, rfl, En52.sub (by kernel_rfl), Hv23.pick [] (by kernel_rfl) (by decide), (by rw [← hw1]; exact hit24), (by omega), (all_next hlt19 hga hg1)⟩, ?_⟩
        omega
       ·
        refine d_s [0,2,4,6,7,10] [] En52 fun ac55 En56 => ?_
        refine wp_ret ?_
        refine block_ret ?_
        refine block_ret ?_
        refine then_ret ?_
        refine block_ret ?_
        refine then_ret ?_
        refine d_ret1 (t := 2) (v := .bool false) En56 (by kernel_rfl) (by kernel_rfl) ?_
        have hz := bstr_size s
        first | (rw [nm_b (p := p) hlt19 (rune_n hlt19 (by omega))]; exact ⟨rfl, Hv23.pick [] (by kernel_rfl) (by decide)⟩) | skip
      ·
       refine d_s [0,4,6,7,10] [] En52 fun ac57 En58 => ?_
       refine c_e (((dcd s p).1 : Nat) : Int) (95 : Int) En58 (fun hc59 => ?_) (fun hc59 => ?_)
       ·
        refine wp_skip ?_
        refine then_normal ?_
        refine c_e (((dcd s p).1 : Nat) : Int) (95 : Int) En58 (fun hc60 => ?_) (fun hc60 => ?_)
        ·
         refine wp_skip ?_
         refine block_normal ?_
         refine block_normal ?_
         refine then_normal ?_
         obtain ⟨hw1, hg1⟩ := rune_y (s := s) (p := p) hlt19 (by omega)
         refine ⟨_, ⟨p + 1, rfl, En58.sub (by kernel_rfl), Hv23.pick [] (by kernel_rfl) (by decide), (by rw [← hw1]; exact hit24), (by omega), (all_next hlt19 hga hg1)⟩, ?_⟩
         omega
        ·
         refine d_s [0,2,4,6,7,10] [] En58 fun ac61 En62 => ?_
         refine wp_ret ?_
         refine block_ret ?_
         refine block_ret ?_
         refine then_ret ?_
         refine block_ret ?_
         refine then_ret ?_
         refine d_ret1 (t := 2) (v := .bool false) En62 (by kernel_rfl) (by kernel_rfl) ?_
         have hz := bstr_size s
         first | (rw [nm_b (p := p) hlt19 (rune_n hlt19 (by omega))]; exact ⟨rfl, Hv23.pick [] (by kernel_rfl) (by decide)⟩) | skip
       ·
        refine d_r [0,4,6,7,10] [] En58 fun ac63 En64 => ?_
        refine then_normal ?_
        refine c_e (((dcd s p).1 : Nat) : Int) (46 : Int) En64 (fun hc65 => ?_) (fun hc65 => ?_)
        ·
         refine wp_skip ?_
         refine block_normal ?_
         refine block_normal ?_
         refine then_normal ?_
         obtain ⟨hw1, hg1⟩ := rune_y (s := s) (p := p) hlt19 (by omega)
         refine ⟨_, ⟨p + 1, rfl, En64.sub (by kernel_rfl), Hv23.pick [] (by kernel_rfl) (by decide), (by rw [← hw1]; exact hit24), (by omega), (all_next hlt19 hga hg1)⟩, ?_⟩
         omega
        ·
         refine d_s [0,2,4,6,7,10] [] En64 fun ac66 En67 => ?_
         refine wp_ret ?_
         refine block_ret ?_
         refine block_ret ?_
         refine then_ret ?_
         refine block_ret ?_
         refine then_ret ?_
         refine d_ret1 (t := 2) (v := .bool false) En67 (by kernel_rfl) (by kernel_rfl) ?_
         have hz := bstr_size s
         first | (rw [nm_b (p := p) hlt19 (rune_n hlt19 (by omega))]; exact ⟨rfl, Hv23.pick [] (by kernel_rfl) (by decide)⟩) | skip
    ·
     have En68 := En41.fx (t := 19) (congrArg Value.bool hb42)
     have hp69 : ¬ ((((dcd s p).1 : Nat) : Int) ≥ (48 : Int)) := of_decide_eq_false hb42
     refine d_e [0,4,6,7,10] [] En68 fun ac70 En71 => ?_
     refine then_normal ?_
     refine c_f En71 ?_
     refine d_s [0,4,6,7,10] [] En71 fun ac72 En73 => ?_
     refine c_e (((dcd s p).1 : Nat) : Int) (45 : Int) En73 (fun hc74 => ?_) (fun hc74 => ?_)
     ·
      refine wp_skip ?_
      refine then_normal ?_
      refine c_e (((dcd s p).1 : Nat) : Int) (45 : Int) En73 (fun hc75 => ?_) (fun hc75 => ?_)
      ·
       refine wp_skip ?_
       refine block_normal ?_
       refine block_normal ?_
       refine then_normal ?_
       obtain ⟨hw1, hg1⟩ := rune_y (s := s) (p := p) hlt19 (by omega)
       refine ⟨_, ⟨p + 1, rfl, En73.sub (by kernel_rfl), Hv23.pick [] (by kernel_rfl) (by decide), (by rw [← hw1]; exact hit24), (by omega), (all_next hlt19 hga hg1)⟩, ?_⟩
       omega
      ·
       refine d_s [0,2,4,6,7,10] [] En73 fun ac76 En77 => ?_
       refine wp_ret ?_
       refine block_ret ?_
       refine block_ret ?_
       refine then_ret ?_
       refine block_ret ?_
       refine then_ret ?_
       refine d_ret1 (t := 2) (v := .bool false) En77 (by kernel_rfl) (by kernel_rfl) ?_
       have hz := bstr_size s
       first | (rw [nm_b (p := p) hlt19 (rune_n hlt19 (by omega))]; exact ⟨rfl, Hv23.pick [] (by kernel_rfl) (by decide)⟩) | skip
     ·
      refine d_s [0,4,6,7,10] [] En73 fun ac78 En79 => ?_
      refine c_e (((dcd s p).1 : Nat) : Int) (95 : Int) En79 (fun hc80 => ?_) (fun hc80 => ?_)
      ·
       refine wp_skip ?_
       refine then_normal ?_
       refine c_e (((dcd s p).1 : Nat) : Int) (95 : Int) En79 (fun hc81 => ?_) (fun hc81 => ?_)
       ·
        refine wp_skip ?_
        refine block_normal ?_
        refine block_normal ?_
        refine then_normal ?_
        obtain ⟨hw1, hg1⟩ := rune_y (s := s) (p := p) hlt19 (by omega)
        refine ⟨_, ⟨p + 1, rfl, En79.sub (by kernel_rfl), Hv23.pick [] (by kernel_rfl) (by decide), (by rw [← hw1]; exact hit24), (by omega), (all_next hlt19 hga hg1)⟩, ?_⟩
        omega
       ·
        refine d_s [0,2,4,6,7,10] [] En79 fun ac82 En83 => ?_
        refine wp_ret ?_
        refine block_ret ?_
        refine block_ret ?_
        refine then_ret ?_
        refine block_ret ?_
        refine then_ret ?_
        refine d_ret1 (t := 2) (v := .bool false) En83 (by kernel_rfl) (by kernel_rfl) ?_
        have hz := bstr_size s
        first | (rw [nm_b (p := p) hlt19 (rune_n hlt19 (by omega))]; exact ⟨rfl, Hv23.pick [] (by kernel_rfl) (by decide)⟩) | skip
      ·
       refine d_r [0,4,6,7,10] [] En79 fun ac84 En85 => ?_
       refine then_normal ?_
       refine c_e (((dcd s p).1 : Nat) : Int) (46 : Int) En85 (fun hc86 => ?_) (fun hc86 => ?_)
       ·
        refine wp_skip ?_
        refine block_normal ?_
        refine block_normal ?_
        refine then_normal ?_
        obtain ⟨hw1, hg1⟩ := rune_y (s := s) (p := p) hlt19 (by omega)
        refine ⟨_, ⟨p + 1, rfl, En85.sub (by kernel_rfl), Hv23.pick [] (by kernel_rfl) (by decide), (by rw [← hw1]; exact hit24), (by omega), (all_next hlt19 hga hg1)⟩, ?_⟩
        omega
       ·
        refine d_s [0,2,4,6,7,10] [] En85 fun ac87 En88 => ?_
        refine wp_ret ?_
        refine block_ret ?_
        refine block_ret ?_
        refine then_ret ?_
        refine block_ret ?_
        refine then_ret ?_
        refine d_ret1 (t := 2) (v := .bool false) En88 (by kernel_rfl) (by kernel_rfl) ?_
        have hz := bstr_size s
        first | (rw [nm_b (p := p) hlt19 (rune_n hlt19 (by omega))]; exact ⟨rfl, Hv23.pick [] (by kernel_rfl) (by decide)⟩) | skip
  ·
   have En89 := En30.fx (t := 13) (congrArg Value.bool hb31)
   have hp90 : ¬ ((((dcd s p).1 : Nat) : Int) ≥ (97 : Int)) := of_decide_eq_false hb31
   refine d_e [0,4,6,7,10] [] En89 fun ac91 En92 => ?_
   refine then_normal ?_
   refine c_f En92 ?_
   refine wp_seq ?_
   refine region_from ?_
   refine d_k [0,4,6,7,10,19] [] 3 En92 fun ac93 En94 => ?_
   rcases Bool.eq_false_or_eq_true (decide ((((dcd s p).1 : Nat) : Int) ≥ (48 : Int))) with hb95 | hb95
   ·
    have En96 := En94.fx (t := 19) (congrArg Value.bool hb95)
    have hp97 : (((dcd s p).1 : Nat) : Int) ≥ (48 : Int) := of_decide_eq_true hb95
    refine d_e [0,4,6,7,10] [] En96 fun ac98 En99 => ?_
    refine then_normal ?_
    refine c_d ((((dcd s p).1 : Nat) : Int) ≤ (57 : Int)) En99 (fun hc100 => ?_) (fun hc100 => ?_)
    ·
     refine wp_skip ?_
     refine then_normal ?_
     refine c_d ((((dcd s p).1 : Nat) : Int) ≤ (57 : Int)) En99 (fun hc101 => ?_) (fun hc101 => ?_)
     ·
      refine wp_skip ?_
      refine block_normal ?_
      refine block_normal ?_
      refine then_normal ?_
      obtain ⟨hw1, hg1⟩ := rune_y (s := s) (p := p) hlt19 (by omega)
      refine ⟨_, ⟨p + 1, rfl, En99.sub (by kernel_rfl), Hv23.pick [] (by kernel_rfl) (by decide), (by rw [← hw1]; exact hit24), (by omega), (all_next hlt19 hga hg1)⟩, ?_⟩
      omega
     ·
      refine d_s [0,2,4,6,7,10] [] En99 fun ac102 En103 => ?_
      refine wp_ret ?_
      refine block_ret ?_
      refine block_ret ?_
      refine then_ret ?_
      refine block_ret ?_
      refine then_ret ?_
      refine d_ret1 (t := 2) (v := .bool false) En103 (by kernel_rfl) (by kernel_rfl) ?_
      have hz := bstr_size s
      first | (rw [nm_b (p := p) hlt19 (rune_n hlt19 (by omega))]; exact ⟨rfl, Hv23.pick [] (by kernel_rfl) (by decide)⟩) | skip
    ·
     refine d_s [0,4,6,7,10] [] En99 fun ac104 En105 => ?_
     refine c_e (((dcd s p).1 : Nat) : Int) (45 : Int) En105 (fun hc106 => ?_) (fun hc106 => ?_)
     ·
      refine wp_skip ?_
      refine then_normal ?_
      refine c_e (((dcd s p).1 : Nat) : Int) (45 : Int) En105 (fun hc107 => ?_) (fun hc107 => ?_)
      ·
       refine wp_skip ?_
       refine block_normal ?_
       refine block_normal ?_
       refine then_normal ?_
       obtain ⟨hw1, hg1⟩ := rune_y (s := s) (p := p) hlt19 (by omega)
       refine ⟨_, ⟨p + 1, rfl, En105.sub (by kernel_rfl), Hv23.pick [] (by kernel_rfl) (by decide), (by rw [← hw1]; exact hit24), (by omega), (all_next hlt19 hga hg1)⟩, ?_⟩
       omega
      ·
       refine d_s [0,2,4,6,7,10] [] En105 fun ac108 En109 => ?_
       refine wp_ret ?_
       refine block_ret ?_
       refine block_ret ?_
       refine then_ret ?_
       refine block_ret ?_
       refine then_ret ?_
       refine d_ret1 (t := 2) (v := .bool false) En109 (by kernel_rfl) (by kernel_rfl) ?_
       have hz := bstr_size s
       first | (rw [nm_b (p := p) hlt19 (rune_n hlt19 (by omega))]; exact ⟨rfl, Hv23.pick [] (by kernel_rfl) (by decide)⟩) | skip
     ·
      refine d_s [0,4,6,7,10] [] En105 fun ac110 En111 => ?_
      refine c_e (((dcd s p).1 : Nat) : Int) (95 : Int) En111 (fun hc112 => ?_) (fun hc112 => ?_)
      ·
       refine wp_skip ?_
       refine then_normal ?_
       refine c_e (((dcd s p).1 : Nat) : Int) (95 : Int) En111 (fun hc113 => ?_) (fun hc113 => ?_)
       ·
        refine wp_skip ?_
        refine block_normal ?_
        refine block_normal ?_
        refine then_normal ?_
        obtain ⟨hw1, hg1⟩ := rune_y (s := s) (p := p) hlt19 (by omega)
        refine ⟨_, ⟨p + 1, rfl, En111.sub (by kernel_rfl), Hv23.pick [] (by kernel_rfl) (by decide), (by rw [← hw1]; exact hit24), (by omega), (all_next hlt19 hga hg1)⟩, ?_⟩
        omega
       ·
        refine d_s [0,2,4,6,7,10] [] En111 fun ac114 En115 => ?_
        refine wp_ret ?_
        refine block_ret ?_
        refine block_ret ?_
        refine then_ret ?_
        refine block_ret ?_
        refine then_ret ?_
        refine d_ret1 (t := 2) (v := .bool false) En115 (by kernel_rfl) (by kernel_rfl) ?_
        have hz := bstr_size s
        first | (rw [nm_b (p := p) hlt19 (rune_n hlt19 (by omega))]; exact ⟨rfl, Hv23.pick [] (by kernel_rfl) (by decide)⟩) | skip
      ·
       refine d_r [0,4,6,7,10] [] En111 fun ac116 En117 => ?_
       refine then_normal ?_
       refine c_e (((dcd s p).1 : Nat) : Int) (46 : Int) En117 (fun hc118 => ?_) (fun hc118 => ?_)
       ·
        refine wp_skip ?_
        refine block_normal ?_
        refine block_normal ?_
        refine then_normal ?_
        obtain ⟨hw1, hg1⟩ := rune_y (s := s) (p := p) hlt19 (by omega)
        refine ⟨_, ⟨p + 1, rfl, En117.sub (by kernel_rfl), Hv23.pick [] (by kernel_rfl) (by decide), (by rw [← hw1]; exact hit24), (by omega), (all_next hlt19 hga hg1)⟩, ?_⟩
        omega
       ·
        refine d_s [0,2,4,6,7,10] [] En117 fun ac119 En120 => ?_
        refine wp_ret ?_
        refine block_ret ?_
        refine block_ret ?_
        refine then_ret ?_
        refine block_ret ?_
        refine then_ret ?_
        refine d_ret1 (t := 2) (v := .bool false) En120 (by kernel_rfl) (by kernel_rfl) ?_
        have hz := bstr_size s
        first | (rw [nm_b (p := p) hlt19 (rune_n hlt19 (by omega))]; exact ⟨rfl, Hv23.pick [] (by kernel_rfl) (by decide)⟩) | skip
   ·
    have En121 := En94.fx (t := 19) (congrArg Value.bool hb95)
    have hp122 : ¬ ((((dcd s p).1 : Nat) : Int) ≥ (48 : Int)) := of_decide_eq_false hb95
    refine d_e [0,4,6,7,10] [] En121 fun ac123 En124 => ?_
    refine then_normal ?_
    refine c_f En124 ?_
    refine d_s [0,4,6,7,10] [] En124 fun ac125 En126 => ?_
    refine c_e (((dcd s p).1 : Nat) : Int) (45 : Int) En126 (fun hc127 => ?_) (fun hc127 => ?_)
    ·
     refine wp_skip ?_
     refine then_normal ?_
     refine c_e (((dcd s p).1 : Nat) : Int) (45 : Int) En126 (fun hc128 => ?_) (fun hc128 => ?_)
     ·
      refine wp_skip ?_
      refine block_normal ?_
      refine block_normal ?_
      refine then_normal ?_
      obtain ⟨hw1, hg1⟩ := rune_y (s := s) (p := p) hlt19 (by omega)
      refine ⟨_, ⟨p + 1, rfl, En126.sub (by kernel_rfl), Hv23.pick [] (by kernel_rfl) (by decide), (by rw [← hw1]; exact hit24), (by omega), (all_next hlt19 hga hg1)⟩, ?_⟩
      omega
     ·
      refine d_s [0,2,4,6,7,10] [] En126 fun ac129 En130 => ?_
      refine wp_ret ?_
      refine block_ret ?_
      refine block_ret ?_
      refine then_ret ?_
      refine block_ret ?_
      refine then_ret ?_
      refine d_ret1 (t := 2) (v := .bool false) En130 (by kernel_rfl) (by kernel_rfl) ?_
      have hz := bstr_size s
      first | (rw [nm_b (p := p) hlt19 (rune_n hlt19 (by omega))]; exact ⟨rfl, Hv23.pick [] (by kernel_rfl) (by decide)⟩) | skip
    ·
     refine d_s [0,4,6,7,10] [] En126 fun ac131 En132 => ?_
     refine c_e (((dcd s p).1 : Nat) : Int) (95 : Int) En132 (fun hc133 => ?_) (fun hc133 => ?_)
     ·
      refine wp_skip ?_
      refine then_normal ?_
      refine c_e (((dcd s p).1 : Nat) : Int) (95 : Int) En132 (fun hc134 => ?_) (fun hc134 => ?_)
      ·
       refine wp_skip ?_
       refine block_normal ?_
       refine block_normal ?_
       refine then_normal ?_
       obtain ⟨hw1, hg1⟩ := rune_y (s := s) (p := p) hlt19 (by omega)
       refine ⟨_, ⟨p + 1, rfl, En132.sub (by kernel_rfl), Hv23.pick [] (by kernel_rfl) (by decide), (by rw [← hw1]; exact hit24), (by omega), (all_next hlt19 hga hg1)⟩, ?_⟩
       omega
      ·
       refine d_s [0,2,4,6,7,10] [] En132 fun ac135 En136 => ?_
       refine wp_ret ?_
       refine block_ret ?_
       refine block_ret ?_
       refine then_ret ?_
       refine block_ret ?_
       refine then_ret ?_
       refine d_ret1 (t := 2) (v := .bool false) En136 (by kernel_rfl) (by kernel_rfl) ?_
       have hz := bstr_size s
       first | (rw [nm_b (p := p) hlt19 (rune_n hlt19 (by omega))]; exact ⟨rfl, Hv23.pick [] (by kernel_rfl) (by decide)⟩) | skip
     ·
      refine d_r [0,4,6,7,10] [] En132 fun ac137 En138 => ?_
      refine then_normal ?_
      refine c_e (((dcd s p).1 : Nat) : Int) (46 : Int) En138 (fun hc139 => ?_) (fun hc139 => ?_)
      ·
       refine wp_skip ?_
       refine block_normal ?_
       refine block_normal ?_
       refine then_normal ?_
       obtain ⟨hw1, hg1⟩ := rune_y (s := s) (p := p) hlt19 (by omega)
       refine ⟨_, ⟨p + 1, rfl, En138.sub (by kernel_rfl), Hv23.pick [] (by kernel_rfl) (by decide), (by rw [← hw1]; exact hit24), (by omega), (all_next hlt19 hga hg1)⟩, ?_⟩
       omega
      ·
       refine d_s [0,2,4,6,7,10] [] En138 fun ac140 En141 => ?_
       refine wp_ret ?_
       refine block_ret ?_
       refine block_ret ?_
       refine then_ret ?_
       refine block_ret ?_
       refine then_ret ?_
       refine d_ret1 (t := 2) (v := .bool false) En141 (by kernel_rfl) (by kernel_rfl) ?_
       have hz := bstr_size s
       first | (rw [nm_b (p := p) hlt19 (rune_n hlt19 (by omega))]; exact ⟨rfl, Hv23.pick [] (by kernel_rfl) (by decide)⟩) | skip
 ·
  refine f_o ?_
  refine op_next_no (d := some 7) (t := 0) (s := s) (p := p) En16 (by kernel_rfl) hit (Nat.not_lt.2 hlt19) fun ac142 En143 => ?_
  refine d_e [0,6,7,8] [] En143 fun ac144 En145 => ?_
  refine then_normal ?_
  refine wp_seq ?_
  refine c_f En145 ?_
  refine wp_exit ?_
  refine then_exit ?_
  refine then_exit ?_
  refine block_exit ?_
  refine then_normal ?_
  refine wp_seq ?_
  refine region_from ?_
  refine d_k [0,6,7,32] [] 4 En145 fun ac146 En147 => ?_
  rcases Bool.eq_false_or_eq_true (decide (((ByteArray.size (bstr s) : Nat) : Int) ≥ (1 : Int))) with hb148 | hb148
  ·
   have En149 := En147.fx (t := 32) (congrArg Value.bool hb148)
   have hp150 : ((ByteArray.size (bstr s) : Nat) : Int) ≥ (1 : Int) := of_decide_eq_true hb148
   refine d_e [0,2,6,7] [] En149 fun ac151 En152 => ?_
   refine then_normal ?_
   refine wp_ret ?_
   refine d_ret1 (t := 2) (v := .bool (decide (((ByteArray.size (bstr s) : Nat) : Int) ≤ (32 : Int)))) En152 (by kernel_rfl) (by kernel_rfl) ?_
   have hz := bstr_size s
   have hpe : p = List.length s := by omega
   rw [hpe] at hga
   rw [nm_y hga (by omega)]
   exact ⟨rfl, Hv17.pick [] (by kernel_rfl) (by decide)⟩
  ·
   have En153 := En147.fx (t := 32) (congrArg Value.bool hb148)
   have hp154 : ¬ (((ByteArray.size (bstr s) : Nat) : Int) ≥ (1 : Int)) := of_decide_eq_false hb148
   refine d_e [0,2,6,7] [] En153 fun ac155 En156 => ?_
   refine then_normal ?_
   refine wp_ret ?_
   refine d_ret1 (t := 2) (v := .bool false) En156 (by kernel_rfl) (by kernel_rfl) ?_
   have hz := bstr_size s
   have hpe : p = List.length s := by omega
   rw [hpe] at hga
   rw [nm_0 (s := s) (by omega)]
   exact ⟨rfl, Hv17.pick [] (by kernel_rfl) (by decide)⟩

theorem name_go (w : World) (s : List UInt8) (hs : List.length s ≤ 140737488351232) : Calls Try.prog 12 #[.string (bstr s)] w fun e w' => e = .returned (.bool (nmL s)) ∧ Ev w [] w' [] := by
 refine d_0 [(0, .string (bstr s))] 49 Go.Proofs.Try.func12 Go.Proofs.Try.ntmps12 (Heap.nil _) fun act0 En0 Hv0 => ?_
 refine wp_seq ?_
 refine d_r [0,2] [] En0 fun ac1 En2 => ?_
 refine then_normal ?_
 refine wp_seq ?_
 refine wp_seq ?_
 have hz := bstr_size s
 refine region_from ?_
 refine d_k [0,2,8] [] 4 En2 fun ac3 En4 => ?_
 rcases Bool.eq_false_or_eq_true (decide (((ByteArray.size (bstr s) : Nat) : Int) < (1 : Int))) with hb5 | hb5
 ·
  have En6 := En4.fx (t := 8) (congrArg Value.bool hb5)
  have hp7 : ((ByteArray.size (bstr s) : Nat) : Int) < (1 : Int) := of_decide_eq_true hb5
  refine d_e [0,2,12] [] En6 fun ac8 En9 => ?_
  refine then_normal ?_
  refine c_t En9 ?_
  refine wp_seq ?_
  refine d_r [0,2] [] En9 fun ac10 En11 => ?_
  refine then_normal ?_
  refine wp_ret ?_
  refine then_ret ?_
  refine d_ret1 (t := 2) (v := .bool false) En11 (by kernel_rfl) (by kernel_rfl) ?_
  first | rw [nm_0 (s := s) (by omega)] | rw [nm_l (s := s) (by omega)] | rw [nm_b (s := s) (p := p) (by omega) (good_n (by omega))]
  exact ⟨rfl, Hv0.pick [] (by kernel_rfl) (by decide)⟩
 ·
  have En12 := En4.fx (t := 8) (congrArg Value.bool hb5)
  have hp13 : ¬ (((ByteArray.size (bstr s) : Nat) : Int) < (1 : Int)) := of_decide_eq_false hb5
  refine d_e [0,2,12] [] En12 fun ac14 En15 => ?_
  refine then_normal ?_
  refine c_d (((ByteArray.size (bstr s) : Nat) : Int) > (32 : Int)) En15 (fun hc16 => ?_) (fun hc16 => ?_)
  ·
   refine wp_seq ?_
   refine d_r [0,2] [] En15 fun ac17 En18 => ?_
   refine then_normal ?_
   refine wp_ret ?_
   refine then_ret ?_
   refine d_ret1 (t := 2) (v := .bool false) En18 (by kernel_rfl) (by kernel_rfl) ?_
   first | rw [nm_0 (s := s) (by omega)] | rw [nm_l (s := s) (by omega)] | rw [nm_b (s := s) (p := p) (by omega) (good_n (by omega))]
   exact ⟨rfl, Hv0.pick [] (by kernel_rfl) (by decide)⟩
  ·
   refine wp_skip ?_
   refine then_normal ?_
   refine wp_seq ?_
   refine wp_seq ?_
   refine d_r [0,2,3] [] En15 fun ac19 En20 => ?_
   refine then_normal ?_
   refine wp_block ?_
   refine loop_m (fun ms21 ac wo => ∃ (p : Nat), ms21 = (List.length s - p : Nat) ∧ Env ac 49 [(0, .string (bstr s)), (3, ni p)] ∧ Ev w [] wo [] ∧ (p ≤ List.length s) ∧ (List.all (List.take p s) goodB = true)) ⟨_, 0, rfl, En20.sub (by kernel_rfl), Hv0.pick [] (by kernel_rfl) (by decide), (by omega), rfl⟩ ?_
   rintro mm27 ac23 wo24 ⟨p, rfl, En25, Hv26, hpl, hga⟩
   refine wp_seq ?_
   refine wp_seq ?_
   refine d_r [0,3,16] [] En25 fun ac28 En29 => ?_
   refine then_normal ?_
   refine c_d (((p : Nat) : Int) < ((ByteArray.size (bstr s) : Nat) : Int)) En29 (fun hc30 => ?_) (fun hc30 => ?_)
   ·
    refine wp_skip ?_
    refine then_normal ?_
    refine wp_seq ?_
    refine wp_block ?_
    refine wp_seq ?_
    have hb31 : p < List.length s := by omega
    refine region_from ?_
    refine d_k [0,3,19,20] [] 2 En29 fun ac32 En33 => ?_
    refine f_o ?_
    refine q_v (x := Instr.index 9 (.string (bstr s)) (ni p)) (v := .int .u8 ((UInt8.toNat (List.getD s p 0) : Nat) : Int)) En33 (Go.Dbr.run_indexstr (s := s) (j := p) (by kernel_rfl) (by omega) hb31 _) fun ac34 En35 => ?_
    refine d_e [0,3,4] [] En35 fun ac36 En37 => ?_
    refine then_normal ?_
    refine wp_seq ?_
    refine region_from ?_
    refine d_k [0,3,4,24] [] 3 En37 fun ac38 En39 => ?_
    rcases Bool.eq_false_or_eq_true (decide (((UInt8.toNat (List.getD s p 0) : Nat) : Int) ≥ (97 : Int))) with hb40 | hb40
    ·
     have En41 := En39.fx (t := 24) (congrArg Value.bool hb40)
     have hp42 : ((UInt8.toNat (List.getD s p 0) : Nat) : Int) ≥ (97 : Int) := of_decide_eq_true hb40
     refine d_k [0,3,4,28] [] 7 En41 fun ac43 En44 => ?_
     rcases Bool.eq_false_or_eq_true (decide (((UInt8.toNat (List.getD s p 0) : Nat) : Int) ≤ (122 : Int))) with hb45 | hb45
     ·
      have En46 := En44.fx (t := 28) (congrArg Value.bool hb45)
      have hp47 : ((UInt8.toNat (List.getD s p 0) : Nat) : Int) ≤ (122 : Int) := of_decide_eq_true hb45
      refine d_e [0,3,48] [] En46 fun ac48 En49 => ?_
      refine then_normal ?_
      refine c_f En49 ?_
      refine wp_skip ?_
      refine block_normal ?_
      refine then_normal ?_
      refine d_r [0,3] [(1, g_n (w_a p 1))] En49 fun ac50 En51 => ?_
      refine then_normal ?_
      refine ⟨_, ⟨p + 1, rfl, En51.sub (by kernel_rfl), Hv26.pick [] (by kernel_rfl) (by decide), (by omega), (all_next (by omega) hga (good_y (by omega)))⟩, ?_⟩
      omega
     ·
      have En52 := En44.fx (t := 28) (congrArg Value.bool hb45)
      have hp53 : ¬ (((UInt8.toNat (List.getD s p 0) : Nat) : Int) ≤ (122 : Int)) := of_decide_eq_false hb45
      refine d_k [0,3,4,28,31] [] 10 En52 fun ac54 En55 => ?_
      rcases Bool.eq_false_or_eq_true (decide (((UInt8.toNat (List.getD s p 0) : Nat) : Int) ≥ (48 : Int))) with hb56 | hb56
      ·
       have En57 := En55.fx (t := 31) (congrArg Value.bool hb56)
       have hp58 : ((UInt8.toNat (List.getD s p 0) : Nat) : Int) ≥ (48 : Int) := of_decide_eq_true hb56
       refine d_k [0,3,4,36] [] 15 En57 fun ac59 En60 => ?_
       rcases Bool.eq_false_or_eq_true (decide (((UInt8.toNat (List.getD s p 0) : Nat) : Int) ≤ (57 : Int))) with hb61 | hb61
       ·
        have En62 := En60.fx (t := 36) (congrArg Value.bool hb61)
        have hp63 : ((UInt8.toNat (List.getD s p 0) : Nat) : Int) ≤ (57 : Int) := of_decide_eq_true hb61
        refine d_e [0,3,48] [] En62 fun ac64 En65 => ?_
        refine then_normal ?_
        refine c_f En65 ?_
        refine wp_skip ?_
        refine block_normal ?_
        refine then_normal ?_
        refine d_r [0,3] [(1, g_n (w_a p 1))] En65 fun ac66 En67 => ?_
        refine then_normal ?_
        refine ⟨_, ⟨p + 1, rfl, En67.sub (by kernel_rfl), Hv26.pick [] (by kernel_rfl) (by decide), (by omega), (all_next (by omega) hga (good_y (by omega)))⟩, ?_⟩
        omega
       ·
        have En68 := En60.fx (t := 36) (congrArg Value.bool hb61)
        have hp69 : ¬ (((UInt8.toNat (List.getD s p 0) : Nat) : Int) ≤ (57 : Int)) := of_decide_eq_false hb61
        refine d_k [0,3,4,40] [] 19 En68 fun ac70 En71 => ?_
        rcases Bool.eq_false_or_eq_true (((UInt8.toNat (List.getD s p 0) : Nat) : Int) == (45 : Int)) with hb72 | hb72
        ·
         have En73 := En71.fx (t := 40) (congrArg Value.bool hb72)
         have hp74 : ((UInt8.toNat (List.getD s p 0) : Nat) : Int) = (45 : Int) := eq_of_beq hb72
         refine d_e [0,3,48] [] En73 fun ac75 En76 => ?_
         refine then_normal ?_
         refine c_f En76 ?_
         refine wp_skip ?_
         refine block_normal ?_
         refine then_normal ?_
         refine d_r [0,3] [(1, g_n (w_a p 1))] En76 fun ac77 En78 => ?_
         refine then_normal ?_
         refine ⟨_, ⟨p + 1, rfl, En78.sub (by kernel_rfl), Hv26.pick [] (by kernel_rfl) (by decide), (by omega), (all_next (by omega) hga (good_y (by omega)))⟩, ?_⟩
         omega
        ·
         have En79 := En71.fx (t := 40) (congrArg Value.bool hb72)
         have hp80 : ¬ (((UInt8.toNat (List.getD s p 0) : Nat) : Int) = (45 : Int)) := ne_of_beq_false hb72
         refine d_k [0,3,4,44] [] 23 En79 fun ac81 En82 => ?_
         rcases Bool.eq_false_or_eq_true (((UInt8.toNat (List.getD s p 0) : Nat) : Int) == (95 : Int)) with hb83 | hb83
         ·
          have En84 := En82.fx (t := 44) (congrArg Value.bool hb83)
          have hp85 : ((UInt8.toNat (List.getD s p 0) : Nat) : Int) = (95 : Int) := eq_of_beq hb83
          refine d_e [0,3,48] [] En84 fun ac86 En87 => ?_
          refine then_normal ?_
          refine c_f En87 ?_
          refine wp_skip ?_
          refine block_normal ?_
          refine then_normal ?_
          refine d_r [0,3] [(1, g_n (w_a p 1))] En87 fun ac88 En89 => ?_
          refine then_normal ?_
          refine ⟨_, ⟨p + 1, rfl, En89.sub (by kernel_rfl), Hv26.pick [] (by kernel_rfl) (by decide), (by omega), (all_next (by omega) hga (good_y (by omega)))⟩, ?_⟩
          omega
         ·
          have En90 := En82.fx (t := 44) (congrArg Value.bool hb83)
          have hp91 : ¬ (((UInt8.toNat (List.getD s p 0) : Nat) : Int) = (95 : Int)) := ne_of_beq_false hb83
          refine d_e [0,3,48] [] En90 fun ac92 En93 => ?_
          refine then_normal ?_
          refine cond_at En93 (t := !(((UInt8.toNat (List.getD s p 0) : Nat) : Int) == (46 : Int))) (by kernel_rfl) (fun hc94 => ?_) (fun hc94 => ?_)
          ·
           replace hc94 : ¬ (((UInt8.toNat (List.getD s p 0) : Nat) : Int) = (46 : Int)) := by simpa using hc94
           refine wp_seq ?_
           refine d_r [0,2,3] [] En93 fun ac95 En96 => ?_
           refine then_normal ?_
           refine wp_ret ?_
           refine block_ret ?_
           refine then_ret ?_
           refine then_ret ?_
           refine block_ret ?_
           refine then_ret ?_
           refine d_ret1 (t := 2) (v := .bool false) En96 (by kernel_rfl) (by kernel_rfl) ?_
           first | rw [nm_0 (s := s) (by omega)] | rw [nm_l (s := s) (by omega)] | rw [nm_b (s := s) (p := p) (by omega) (good_n (by omega))]
           exact ⟨rfl, Hv26.pick [] (by kernel_rfl) (by decide)⟩
          ·
           replace hc94 : ((UInt8.toNat (List.getD s p 0) : Nat) : Int) = (46 : Int) := by simpa using hc94
           refine wp_skip ?_
           refine block_normal ?_
           refine then_normal ?_
           refine d_r [0,3] [(1, g_n (w_a p 1))] En93 fun ac97 En98 => ?_
           refine then_normal ?_
           refine ⟨_, ⟨p + 1, rfl, En98.sub (by kernel_rfl), Hv26.pick [] (by kernel_rfl) (by decide), (by omega), (all_next (by omega) hga (good_y (by omega)))⟩, ?_⟩
           omega
      ·
       have En99 := En55.fx (t := 31) (congrArg Value.bool hb56)
       have hp100 : ¬ (((UInt8.toNat (List.getD s p 0) : Nat) : Int) ≥ (48 : Int)) := of_decide_eq_false hb56
       refine d_k [0,3,4,40] [] 19 En99 fun ac101 En102 => ?_
       rcases Bool.eq_false_or_eq_true (((UInt8.toNat (List.getD s p 0) : Nat) : Int) == (45 : Int)) with hb103 | hb103
       ·
        have En104 := En102.fx (t := 40) (congrArg Value.bool hb103)
        have hp105 : ((UInt8.toNat (List.getD s p 0) : Nat) : Int) = (45 : Int) := eq_of_beq hb103
        refine d_e [0,3,48] [] En104 fun ac106 En107 => ?_
        refine then_normal ?_
        refine c_f En107 ?_
        refine wp_skip ?_
        refine block_normal ?_
        refine then_normal ?_
        refine d_r [0,3] [(1, g_n (w_a p 1))] En107 fun ac108 En109 => ?_
        refine then_normal ?_
        refine ⟨_, ⟨p + 1, rfl, En109.sub (by kernel_rfl), Hv26.pick [] (by kernel_rfl) (by decide), (by omega), (all_next (by omega) hga (good_y (by omega)))⟩, ?_⟩
        omega
       ·
        have En110 := En102.fx (t := 40) (congrArg Value.bool hb103)
        have hp111 : ¬ (((UInt8.toNat (List.getD s p 0) : Nat) : Int) = (45 : Int)) := ne_of_beq_false hb103
        refine d_k [0,3,4,44] [] 23 En110 fun ac112 En113 => ?_
        rcases Bool.eq_false_or_eq_true (((UInt8.toNat (List.getD s p 0) : Nat) : Int) == (95 : Int)) with hb114 | hb114
        ·
         have En115 := En113.fx (t := 44) (congrArg Value.bool hb114)
         have hp116 : ((UInt8.toNat (List.getD s p 0) : Nat) : Int) = (95 : Int) := eq_of_beq hb114
         refine d_e [0,3,48] [] En115 fun ac117 En118 => ?_
         refine then_normal ?_
         refine c_f En118 ?_
         refine wp_skip ?_
         refine block_normal ?_
         refine then_normal ?_
         refine d_r [0,3] [(1, g_n (w_a p 1))] En118 fun ac119 En120 => ?_
         refine then_normal ?_
         refine ⟨_, ⟨p + 1, rfl, En120.sub (by kernel_rfl), Hv26.pick [] (by kernel_rfl) (by decide), (by omega), (all_next (by omega) hga (good_y (by omega)))⟩, ?_⟩
         omega
        ·
         have En121 := En113.fx (t := 44) (congrArg Value.bool hb114)
         have hp122 : ¬ (((UInt8.toNat (List.getD s p 0) : Nat) : Int) = (95 : Int)) := ne_of_beq_false hb114
         refine d_e [0,3,48] [] En121 fun ac123 En124 => ?_
         refine then_normal ?_
         refine cond_at En124 (t := !(((UInt8.toNat (List.getD s p 0) : Nat) : Int) == (46 : Int))) (by kernel_rfl) (fun hc125 => ?_) (fun hc125 => ?_)
         ·
          replace hc125 : ¬ (((UInt8.toNat (List.getD s p 0) : Nat) : Int) = (46 : Int)) := by simpa using hc125
          refine wp_seq ?_
          refine d_r [0,2,3] [] En124 fun ac126 En127 => ?_
          refine then_normal ?_
          refine wp_ret ?_
          refine block_ret ?_
          refine then_ret ?_
          refine then_ret ?_
          refine block_ret ?_
          refine then_ret ?_
          refine d_ret1 (t := 2) (v := .bool false) En127 (by kernel_rfl) (by kernel_rfl) ?_
          first | rw [nm_0 (s := s) (by omega)] | rw [nm_l (s := s) (by omega)] | rw [nm_b (s := s) (p := p) (by omega) (good_n (by omega))]
          exact ⟨rfl, Hv26.pick [] (by kernel_rfl) (by decide)⟩
         ·
          replace hc125 : ((UInt8.toNat (List.getD s p 0) : Nat) : Int) = (46 : Int) := by simpa using hc125
          refine wp_skip ?_
          refine block_normal ?_
          refine then_normal ?_
          refine d_r [0,3] [(1, g_n (w_a p 1))] En124 fun ac128 En129 => ?_
          refine then_normal ?_
          refine ⟨_, ⟨p + 1, rfl, En129.sub (by kernel_rfl), Hv26.pick [] (by kernel_rfl) (by decide), (by omega), (all_next (by omega) hga (good_y (by omega)))⟩, ?_⟩
          omega
    ·
     have En130 := En39.fx (t := 24) (congrArg Value.bool hb40)
     have hp131 : ¬ (((UInt8.toNat (List.getD s p 0) : Nat) : Int) ≥ (97 : Int)) := of_decide_eq_false hb40
     refine d_k [0,3,4,28,31] [] 10 En130 fun ac132 En133 => ?_
     rcases Bool.eq_false_or_eq_true (decide (((UInt8.toNat (List.getD s p 0) : Nat) : Int) ≥ (48 : Int))) with hb134 | hb134
     ·
      have En135 := En133.fx (t := 31) (congrArg Value.bool hb134)
      have hp136 : ((UInt8.toNat (List.getD s p 0) : Nat) : Int) ≥ (48 : Int) := of_decide_eq_true hb134
      refine d_k [0,3,4,36] [] 15 En135 fun ac137 En138 => ?_
      rcases Bool.eq_false_or_eq_true (decide (((UInt8.toNat (List.getD s p 0) : Nat) : Int) ≤ (57 : Int))) with hb139 | hb139
      ·
       have En140 := En138.fx (t := 36) (congrArg Value.bool hb139)
       have hp141 : ((UInt8.toNat (List.getD s p 0) : Nat) : Int) ≤ (57 : Int) := of_decide_eq_true hb139
       refine d_e [0,3,48] [] En140 fun ac142 En143 => ?_
       refine then_normal ?_
       refine c_f En143 ?_
       refine wp_skip ?_
       refine block_normal ?_
       refine then_normal ?_
       refine d_r [0,3] [(1, g_n (w_a p 1))] En143 fun ac144 En145 => ?_
       refine then_normal ?_
       refine ⟨_, ⟨p + 1, rfl, En145.sub (by kernel_rfl), Hv26.pick [] (by kernel_rfl) (by decide), (by omega), (all_next (by omega) hga (good_y (by omega)))⟩, ?_⟩
       omega
      ·
       have En146 := En138.fx (t := 36) (congrArg Value.bool hb139)
       have hp147 : ¬ (((UInt8.toNat (List.getD s p 0) : Nat) : Int) ≤ (57 : Int)) := of_decide_eq_false hb139
       refine d_k [0,3,4,40] [] 19 En146 fun ac148 En149 => ?_
       rcases Bool.eq_false_or_eq_true (((UInt8.toNat (List.getD s p 0) : Nat) : Int) == (45 : Int)) with hb150 | hb150
       ·
        have En151 := En149.fx (t := 40) (congrArg Value.bool hb150)
        have hp152 : ((UInt8.toNat (List.getD s p 0) : Nat) : Int) = (45 : Int) := eq_of_beq hb150
        refine d_e [0,3,48] [] En151 fun ac153 En154 => ?_
        refine then_normal ?_
        refine c_f En154 ?_
        refine wp_skip ?_
        refine block_normal ?_
        refine then_normal ?_
        refine d_r [0,3] [(1, g_n (w_a p 1))] En154 fun ac155 En156 => ?_
        refine then_normal ?_
        refine ⟨_, ⟨p + 1, rfl, En156.sub (by kernel_rfl), Hv26.pick [] (by kernel_rfl) (by decide), (by omega), (all_next (by omega) hga (good_y (by omega)))⟩, ?_⟩
        omega
       ·
        have En157 := En149.fx (t := 40) (congrArg Value.bool hb150)
        have hp158 : ¬ (((UInt8.toNat (List.getD s p 0) : Nat) : Int) = (45 : Int)) := ne_of_beq_false hb150
        refine d_k [0,3,4,44] [] 23 En157 fun ac159 En160 => ?_
        rcases Bool.eq_false_or_eq_true (((UInt8.toNat (List.getD s p 0) : Nat) : Int) == (95 : Int)) with hb161 | hb161
        ·
         have En162 := En160.fx (t := 44) (congrArg Value.bool hb161)
         have hp163 : ((UInt8.toNat (List.getD s p 0) : Nat) : Int) = (95 : Int) := eq_of_beq hb161
         refine d_e [0,3,48] [] En162 fun ac164 En165 => ?_
         refine then_normal ?_
         refine c_f En165 ?_
         refine wp_skip ?_
         refine block_normal ?_
         refine then_normal ?_
         refine d_r [0,3] [(1, g_n (w_a p 1))] En165 fun ac166 En167 => ?_
         refine then_normal ?_
         refine ⟨_, ⟨p + 1, rfl, En167.sub (by kernel_rfl), Hv26.pick [] (by kernel_rfl) (by decide), (by omega), (all_next (by omega) hga (good_y (by omega)))⟩, ?_⟩
         omega
        ·
         have En168 := En160.fx (t := 44) (congrArg Value.bool hb161)
         have hp169 : ¬ (((UInt8.toNat (List.getD s p 0) : Nat) : Int) = (95 : Int)) := ne_of_beq_false hb161
         refine d_e [0,3,48] [] En168 fun ac170 En171 => ?_
         refine then_normal ?_
         refine cond_at En171 (t := !(((UInt8.toNat (List.getD s p 0) : Nat) : Int) == (46 : Int))) (by kernel_rfl) (fun hc172 => ?_) (fun hc172 => ?_)
         ·
          replace hc172 : ¬ (((UInt8.toNat (List.getD s p 0) : Nat) : Int) = (46 : Int)) := by simpa using hc172
          refine wp_seq ?_
          refine d_r [0,2,3] [] En171 fun ac173 En174 => ?_
          refine then_normal ?_
          refine wp_ret ?_
          refine block_ret ?_
          refine then_ret ?_
          refine then_ret ?_
          refine block_ret ?_
          refine then_ret ?_
          refine d_ret1 (t := 2) (v := .bool false) En174 (by kernel_rfl) (by kernel_rfl) ?_
          first | rw [nm_0 (s := s) (by omega)] | rw [nm_l (s := s) (by omega)] | rw [nm_b (s := s) (p := p) (by omega) (good_n (by omega))]
          exact ⟨rfl, Hv26.pick [] (by kernel_rfl) (by decide)⟩
         ·
          replace hc172 : ((UInt8.toNat (List.getD s p 0) : Nat) : Int) = (46 : Int) := by simpa using hc172
          refine wp_skip ?_
          refine block_normal ?_
          refine then_normal ?_
          refine d_r [0,3] [(1, g_n (w_a p 1))] En171 fun ac175 En176 => ?_
          refine then_normal ?_
          refine ⟨_, ⟨p + 1, rfl, En176.sub (by kernel_rfl), Hv26.pick [] (by kernel_rfl) (by decide), (by omega), (all_next (by omega) hga (good_y (by omega)))⟩, ?_⟩
          omega
     ·
      have En177 := En133.fx (t := 31) (congrArg Value.bool hb134)
      have hp178 : ¬ (((UInt8.toNat (List.getD s p 0) : Nat) : Int) ≥ (48 : Int)) := of_decide_eq_false hb134
      refine d_k [0,3,4,40] [] 19 En177 fun ac179 En180 => ?_
      rcases Bool.eq_false_or_eq_true (((UInt8.toNat (List.getD s p 0) : Nat) : Int) == (45 : Int)) with hb181 | hb181
      ·
       have En182 := En180.fx (t := 40) (congrArg Value.bool hb181)
       have hp183 : ((UInt8.toNat (List.getD s p 0) : Nat) : Int) = (45 : Int) := eq_of_beq hb181
       refine d_e [0,3,48] [] En182 fun ac184 En185 => ?_
       refine then_normal ?_
       refine c_f En185 ?_
       refine wp_skip ?_
       refine block_normal ?_
       refine then_normal ?_
       refine d_r [0,3] [(1, g_n (w_a p 1))] En185 fun ac186 En187 => ?_
       refine then_normal ?_
       refine ⟨_, ⟨p + 1, rfl, En187.sub (by kernel_rfl), Hv26.pick [] (by kernel_rfl) (by decide), (by omega), (all_next (by omega) hga (good_y (by omega)))⟩, ?_⟩
       omega
      ·
       have En188 := En180.fx (t := 40) (congrArg Value.bool hb181)
       have hp189 : ¬ (((UInt8.toNat (List.getD s p 0) : Nat) : Int) = (45 : Int)) := ne_of_beq_false hb181
       refine d_k [0,3,4,44] [] 23 En188 fun ac190 En191 => ?_
       rcases Bool.eq_false_or_eq_true (((UInt8.toNat (List.getD s p 0) : Nat) : Int) == (95 : Int)) with hb192 | hb192
       ·
        have En193 := En191.fx (t := 44) (congrArg Value.bool hb192)
        have hp194 : ((UInt8.toNat (List.getD s p 0) : Nat) : Int) = (95 : Int) := eq_of_beq hb192
        refine d_e [0,3,48] [] En193 fun ac195 En196 => ?_
        refine then_normal ?_
        refine c_f En196 ?_
        refine wp_skip ?_
        refine block_normal ?_
        refine then_normal ?_
        refine d_r [0,3] [(1, g_n (w_a p 1))] En196 fun ac197 En198 => ?_
        refine then_normal ?_
        refine ⟨_, ⟨p + 1, rfl, En198.sub (by kernel_rfl), Hv26.pick [] (by kernel_rfl) (by decide), (by omega), (all_next (by omega) hga (good_y (by omega)))⟩, ?_⟩
        omega
       ·
        have En199 := En191.fx (t := 44) (congrArg Value.bool hb192)
        have hp200 : ¬ (((UInt8.toNat (List.getD s p 0) : Nat) : Int) = (95 : Int)) := ne_of_beq_false hb192
        refine d_e [0,3,48] [] En199 fun ac201 En202 => ?_
        refine then_normal ?_
        refine cond_at En202 (t := !(((UInt8.toNat (List.getD s p 0) : Nat) : Int) == (46 : Int))) (by kernel_rfl) (fun hc203 => ?_) (fun hc203 => ?_)
        ·
         replace hc203 : ¬ (((UInt8.toNat (List.getD s p 0) : Nat) : Int) = (46 : Int)) := by simpa using hc203
         refine wp_seq ?_
         refine d_r [0,2,3] [] En202 fun ac204 En205 => ?_
         refine then_normal ?_
         refine wp_ret ?_
         refine block_ret ?_
         refine then_ret ?_
         refine then_ret ?_
         refine block_ret ?_
         refine then_ret ?_
         refine d_ret1 (t := 2) (v := .bool false) En205 (by kernel_rfl) (by kernel_rfl) ?_
         first | rw [nm_0 (s := s) (by omega)] | rw [nm_l (s := s) (by omega)] | rw [nm_b (s := s) (p := p) (by omega) (good_n (by omega))]
         exact ⟨rfl, Hv26.pick [] (by kernel_rfl) (by decide)⟩
        ·
         replace hc203 : ((UInt8.toNat (List.getD s p 0) : Nat) : Int) = (46 : Int) := by simpa using hc203
         refine wp_skip ?_
         refine block_normal ?_
         refine then_normal ?_
         refine d_r [0,3] [(1, g_n (w_a p 1))] En202 fun ac206 En207 => ?_
         refine then_normal ?_
         refine ⟨_, ⟨p + 1, rfl, En207.sub (by kernel_rfl), Hv26.pick [] (by kernel_rfl) (by decide), (by omega), (all_next (by omega) hga (good_y (by omega)))⟩, ?_⟩
         omega
   ·
    refine wp_exit ?_
    refine then_exit ?_
    refine then_exit ?_
    refine block_exit ?_
    refine then_normal ?_
    refine wp_seq ?_
    refine d_r [0,2,3] [] En29 fun ac208 En209 => ?_
    refine then_normal ?_
    refine wp_ret ?_
    refine d_ret1 (t := 2) (v := .bool true) En209 (by kernel_rfl) (by kernel_rfl) ?_
    rw [show p = List.length s from by omega] at hga
    rw [nm_f hga (by omega) (by omega)]
    exact ⟨rfl, Hv26.pick [] (by kernel_rfl) (by decide)⟩

end Go.Proofs.Ytfeibokonhdgnaa
