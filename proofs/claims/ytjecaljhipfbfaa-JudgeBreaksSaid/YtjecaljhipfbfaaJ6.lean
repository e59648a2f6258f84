/- JudgeBreaks: its walk. -/
import Derived.Test.YtjecaljhipfbfaaJ3
namespace Go.Proofs.Ytjecaljhipfbfaa
open Go.Dbr
set_option maxRecDepth 100000
set_option maxHeartbeats 2000000
set_option linter.unusedVariables false

def brkB (lo ls : List (Sl UInt8)) (i : Nat) : Bool := !(decide (i < ls.length) && ((textsOf lo).getD i [] == (textsOf ls).getD i []))
def brkF (lo ls : List (Sl UInt8)) : Int := firstAt (brkB lo ls) lo.length
theorem brk_past {lo ls : List (Sl UInt8)} {i : Nat} (h : ls.length ≤ i) : brkB lo ls i = true := by unfold brkB; rw [decide_eq_false (by omega)]; rfl
theorem brk_at {lo ls : List (Sl UInt8)} {i : Nat} {x y : Sl UInt8} (hx : lo[i]? = some x) (hy : ls[i]? = some y) : brkB lo ls i = !(x.l == y.l) := by
  unfold brkB
  rw [texts_at hx, texts_at hy, decide_eq_true (List.getElem?_eq_some_iff.1 hy).1]
  rfl
def forgB (ls la : List (Sl UInt8)) (i : Nat) : Bool := !(decide ((textsOf la).getD i [] ∈ textsOf ls))
def forgF (ls la : List (Sl UInt8)) : Int := firstAt (forgB ls la) la.length
theorem firstAt_step {p : Nat → Bool} {k : Nat} (h : ∀ j, j < k → p j = false) (hk : p k = false) : ∀ j, j < k + 1 → p j = false := fun j hj => by
  rcases Nat.lt_or_eq_of_le (Nat.le_of_lt_succ hj) with h1 | rfl
  · exact h j h1
  · exact hk
theorem mem_texts {l : List (Sl UInt8)} {y : List UInt8} : y ∈ textsOf l ↔ ∃ i : Nat, ∃ x : Sl UInt8, l[i]? = some x ∧ x.l = y := by
  unfold textsOf
  rw [List.mem_map]
  constructor
  · rintro ⟨x, hx, rfl⟩
    obtain ⟨i, hi⟩ := List.getElem?_of_mem hx
    exact ⟨i, x, hi, rfl⟩
  · rintro ⟨i, x, hx, rfl⟩
    exact ⟨x, List.mem_of_getElem? hx, rfl⟩
theorem texts_of_take (l : List (Sl UInt8)) (k : Nat) : textsOf (l.take k) = (textsOf l).take k := by simp [textsOf, List.map_take]

theorem break_go (w : World) (ag : Option Addr) (ng cg : Nat) (lg : List (Sl UInt8)) (eg : ng = List.length lg) (ig : InS (fun s : Sl UInt8 => s.f) 24 (fun x : Sl UInt8 => InB w [] x.a x.c x.l) w [] ag cg lg) (ao : Option Addr) (no co : Nat) (lo : List (Sl UInt8)) (eo : no = List.length lo) (io : InS (fun s : Sl UInt8 => s.f) 24 (fun x : Sl UInt8 => InB w [] x.a x.c x.l) w [] ao co lo) : Calls Try.prog 11 #[.agg #[.slice ag ng cg, .slice ao no co]] w fun e w' => e = .returned (.int .i64 (brkF lo lg)) ∧ Ev w [] w' [] := by
  subst eo eg
  have hs1 := io.small
  have hs2 := ig.small
  have hc1 := io.cap
  have hc2 := ig.cap
  refine d_start [(0, .agg #[.slice ag (List.length lg) cg, .slice ao (List.length lo) co])] 30 Go.Proofs.Try.func11 Go.Proofs.Try.ntmps11 rfl (by kernel_rfl) (by kernel_rfl) ?_
  intro act0 En0
  have Hv0 : Ev w [] w [] := Ev.refl (Heap.nil _)
  refine wp_seq ?_
  refine region_from ?_  -- region 0
  refine from_op (by kernel_rfl) ?_
  refine op_newbox (d := some 1) (T := 34) (v := .agg #[.slice ag (List.length lg) cg, .slice ao (List.length lo) co]) (cs := [.slice ag (List.length lg) cg, .slice ao (List.length lo) co]) En0 (by kernel_rfl) rfl Hv0 ?_
  intro ac2 wo3 bk1 En4 Hv5
  refine d_pures [(1, .pointer (some ⟨bk1, 0, none⟩)), (2, .int .i64 0)] [.int .i64 0] 2 En4 (by kernel_rfl) (by kernel_rfl) rfl ?_
  intro ac6 En7
  refine from_end (by kernel_rfl) ?_
  refine then_normal ?_
  refine wp_seq ?_
  refine wp_seq ?_
  refine region_from ?_  -- region 1
  refine d_pures [(1, .pointer (some ⟨bk1, 0, none⟩)), (2, .int .i64 0), (5, .pointer (some ⟨bk1, 1, none⟩))] [.pointer (some ⟨bk1, 1, none⟩)] 1 En7 (by kernel_rfl) (by kernel_rfl) rfl ?_
  intro ac8 En9
  refine from_op (by kernel_rfl) ?_
  refine op_loadbox (d := some 6) (t := 32) (b := bk1) (off := 1) (k := 0) (v := .slice ao (List.length lo) co) En9 (by kernel_rfl) Hv5 rfl rfl (by kernel_rfl) ?_
  intro ac10 En11
  refine d_pures [(1, .pointer (some ⟨bk1, 0, none⟩)), (2, .int .i64 0), (6, .slice ao (List.length lo) co), (7, .int .i64 ((List.length lo : Nat) : Int)), (8, .int .i64 0)] [.int .i64 ((List.length lo : Nat) : Int), .int .i64 0] 4 En11 (by kernel_rfl) (by kernel_rfl) rfl ?_
  intro ac12 En13
  refine from_end (by kernel_rfl) ?_
  refine then_normal ?_
  refine wp_block ?_
  refine loop_m (fun ms14 ac wo => ∃ (k : Nat), ms14 = (List.length lo - k : Nat) ∧ Env ac 30 [(1, .pointer (some ⟨bk1, 0, none⟩)), (6, .slice ao (List.length lo) co), (7, .int .i64 ((List.length lo : Nat) : Int)), (8, .int .i64 ((k : Nat) : Int))] ∧ Ev w [] wo [.box bk1 [.slice ag (List.length lg) cg, .slice ao (List.length lo) co] 34] ∧ (k ≤ List.length lo) ∧ (∀ j, j < k → brkB lo lg j = false)) ⟨_, 0, rfl, En13.sub (by kernel_rfl), Hv5.pick [0] (by kernel_rfl) (by decide), by omega, fun j hj => by omega⟩ ?_
  rintro mm20 ac16 wo17 ⟨k, rfl, En18, Hv19, hk, hn1⟩
  refine wp_seq ?_
  refine region_from ?_  -- region 2
  refine d_pures [(1, .pointer (some ⟨bk1, 0, none⟩)), (6, .slice ao (List.length lo) co), (7, .int .i64 ((List.length lo : Nat) : Int)), (8, .int .i64 ((k : Nat) : Int)), (9, .bool (decide (((k : Nat) : Int) < ((List.length lo : Nat) : Int))))] [.bool (decide (((k : Nat) : Int) < ((List.length lo : Nat) : Int)))] 1 En18 (by kernel_rfl) (by kernel_rfl) rfl ?_
  intro ac21 En22
  refine from_end (by kernel_rfl) ?_
  refine then_normal ?_
  refine wp_seq ?_
  refine cond_at En22 (t := decide (((k : Nat) : Int) < ((List.length lo : Nat) : Int))) (by kernel_rfl) (fun hc23 => ?_) (fun hc23 => ?_)
  ·
    replace hc23 : ((k : Nat) : Int) < ((List.length lo : Nat) : Int) := of_decide_eq_true hc23
    refine wp_skip ?_
    refine then_normal ?_
    refine wp_seq ?_
    refine wp_block ?_
    refine wp_seq ?_
    refine region_from ?_  -- region 3
    refine d_pures [(1, .pointer (some ⟨bk1, 0, none⟩)), (6, .slice ao (List.length lo) co), (7, .int .i64 ((List.length lo : Nat) : Int)), (8, .int .i64 ((k : Nat) : Int)), (10, .int .i64 ((k : Nat) : Int))] [.int .i64 ((k : Nat) : Int)] 1 En22 (by kernel_rfl) (by kernel_rfl) rfl ?_
    intro ac24 En25
    refine from_op (by kernel_rfl) ?_
    refine op_index (d := some 11) (t := 32) (e := 22) (sz := 1) (len := List.length lo) (cap := co) (j := k) (ao := ao) (k := .i64) (ix := ((k : Nat) : Int)) En25 (by kernel_rfl) io.nz (by kernel_rfl) (by kernel_rfl) (by omega) (by omega) (jo := k) (Nat.mul_one _) ?_
    intro ac28 adr26 had27 En29
    have hb30 : k < List.length lo := by omega
    obtain ⟨⟨a_x32, c_x32, x32⟩, hx31⟩ : ∃ x, (lo)[k]? = some x := ⟨_, List.getElem?_eq_getElem hb30⟩
    obtain i_x32 := io.each _ (List.mem_of_getElem? hx31)
    replace i_x32 : InB w [] a_x32 c_x32 x32 := i_x32
    refine from_op (by kernel_rfl) ?_
    refine op_loadf (d := some 12) (t := 22) (ad := adr26) (ao := ao) (ys := List.flatMap (fun s : Sl UInt8 => s.f) lo) (o := k) (v := .slice a_x32 (List.length x32) c_x32) En29 (by kernel_rfl) rfl (io.ro.ev Hv19).reads had27 ((flat_get1 (fun _ _ => rfl) hx31).trans rfl) (by kernel_rfl) ?_
    intro ac33 En34
    refine d_pures [(1, .pointer (some ⟨bk1, 0, none⟩)), (3, .int .i64 ((k : Nat) : Int)), (4, .slice a_x32 (List.length x32) c_x32), (6, .slice ao (List.length lo) co), (7, .int .i64 ((List.length lo : Nat) : Int)), (8, .int .i64 ((k : Nat) : Int))] [.int .i64 ((k : Nat) : Int), .slice a_x32 (List.length x32) c_x32] 5 En34 (by kernel_rfl) (by kernel_rfl) rfl ?_
    intro ac35 En36
    refine from_end (by kernel_rfl) ?_
    refine then_normal ?_
    refine wp_seq ?_
    refine region_from ?_  -- region 4
    refine d_pures [(1, .pointer (some ⟨bk1, 0, none⟩)), (3, .int .i64 ((k : Nat) : Int)), (4, .slice a_x32 (List.length x32) c_x32), (6, .slice ao (List.length lo) co), (7, .int .i64 ((List.length lo : Nat) : Int)), (8, .int .i64 ((k : Nat) : Int)), (13, .int .i64 ((k : Nat) : Int)), (14, .pointer (some ⟨bk1, 0, none⟩))] [.int .i64 ((k : Nat) : Int), .pointer (some ⟨bk1, 0, none⟩)] 2 En36 (by kernel_rfl) (by kernel_rfl) rfl ?_
    intro ac37 En38
    refine from_op (by kernel_rfl) ?_
    refine op_loadbox (d := some 15) (t := 32) (b := bk1) (off := 0) (k := 0) (v := .slice ag (List.length lg) cg) En38 (by kernel_rfl) Hv19 rfl rfl (by kernel_rfl) ?_
    intro ac39 En40
    refine d_pures [(1, .pointer (some ⟨bk1, 0, none⟩)), (3, .int .i64 ((k : Nat) : Int)), (4, .slice a_x32 (List.length x32) c_x32), (6, .slice ao (List.length lo) co), (7, .int .i64 ((List.length lo : Nat) : Int)), (8, .int .i64 ((k : Nat) : Int)), (18, .bool (decide (((k : Nat) : Int) ≥ ((List.length lg : Nat) : Int))))] [.int .i64 ((List.length lg : Nat) : Int), .bool (decide (((k : Nat) : Int) ≥ ((List.length lg : Nat) : Int))), .bool (decide (((k : Nat) : Int) ≥ ((List.length lg : Nat) : Int)))] 6 En40 (by kernel_rfl) (by kernel_rfl) rfl ?_
    intro ac41 En42
    rcases Bool.eq_false_or_eq_true (decide (((k : Nat) : Int) ≥ ((List.length lg : Nat) : Int))) with hb43 | hb43
    · rw [hb43] at En42
      have hp44 : ((k : Nat) : Int) ≥ ((List.length lg : Nat) : Int) := of_decide_eq_true hb43
      refine d_pures [(1, .pointer (some ⟨bk1, 0, none⟩)), (3, .int .i64 ((k : Nat) : Int)), (6, .slice ao (List.length lo) co), (7, .int .i64 ((List.length lo : Nat) : Int)), (8, .int .i64 ((k : Nat) : Int)), (27, .bool true)] [undef, undef, undef, undef, undef, undef, undef, undef, .bool true] 15 En42 (by kernel_rfl) (by kernel_rfl) rfl ?_
      intro ac45 En46
      refine from_end (by kernel_rfl) ?_
      refine then_normal ?_
      refine cond_true En46 (t := true) (by kernel_rfl) rfl ?_
      refine wp_seq ?_
      refine region_from ?_  -- region 5
      refine d_pures [(1, .pointer (some ⟨bk1, 0, none⟩)), (2, .int .i64 ((k : Nat) : Int)), (3, .int .i64 ((k : Nat) : Int)), (6, .slice ao (List.length lo) co), (7, .int .i64 ((List.length lo : Nat) : Int)), (8, .int .i64 ((k : Nat) : Int))] [.int .i64 ((k : Nat) : Int), .int .i64 ((k : Nat) : Int)] 2 En46 (by kernel_rfl) (by kernel_rfl) rfl ?_
      intro ac47 En48
      refine from_end (by kernel_rfl) ?_
      refine then_normal ?_
      refine wp_ret ?_
      refine block_ret ?_
      refine then_ret ?_
      refine then_ret ?_
      refine block_ret ?_
      refine then_ret ?_
      refine d_ret1 (t := 2) (v := .int .i64 ((k : Nat) : Int)) En48 (by kernel_rfl) (by kernel_rfl) ?_
      have e : brkF lo lg = ((k : Nat) : Int) := firstAt_yes (by omega) (by exact brk_past (by omega)) hn1
      exact ⟨by rw [e], Hv19.pick [] (by kernel_rfl) (by decide)⟩
    · rw [hb43] at En42
      have hp49 : ¬ (((k : Nat) : Int) ≥ ((List.length lg : Nat) : Int)) := of_decide_eq_false hb43
      refine d_pures [(1, .pointer (some ⟨bk1, 0, none⟩)), (3, .int .i64 ((k : Nat) : Int)), (6, .slice ao (List.length lo) co), (7, .int .i64 ((List.length lo : Nat) : Int)), (8, .int .i64 ((k : Nat) : Int)), (18, .bool false), (19, .slice a_x32 (List.length x32) c_x32), (20, .pointer (some ⟨bk1, 0, none⟩))] [.slice a_x32 (List.length x32) c_x32, .pointer (some ⟨bk1, 0, none⟩)] 8 En42 (by kernel_rfl) (by kernel_rfl) rfl ?_
      intro ac50 En51
      refine from_op (by kernel_rfl) ?_
      refine op_loadbox (d := some 21) (t := 32) (b := bk1) (off := 0) (k := 0) (v := .slice ag (List.length lg) cg) En51 (by kernel_rfl) Hv19 rfl rfl (by kernel_rfl) ?_
      intro ac52 En53
      refine d_pures [(1, .pointer (some ⟨bk1, 0, none⟩)), (3, .int .i64 ((k : Nat) : Int)), (6, .slice ao (List.length lo) co), (7, .int .i64 ((List.length lo : Nat) : Int)), (8, .int .i64 ((k : Nat) : Int)), (18, .bool false), (19, .slice a_x32 (List.length x32) c_x32), (21, .slice ag (List.length lg) cg), (22, .int .i64 ((k : Nat) : Int))] [.int .i64 ((k : Nat) : Int)] 10 En53 (by kernel_rfl) (by kernel_rfl) rfl ?_
      intro ac54 En55
      refine from_op (by kernel_rfl) ?_
      refine op_index (d := some 23) (t := 32) (e := 22) (sz := 1) (len := List.length lg) (cap := cg) (j := k) (ao := ag) (k := .i64) (ix := ((k : Nat) : Int)) En55 (by kernel_rfl) ig.nz (by kernel_rfl) (by kernel_rfl) (by omega) (by omega) (jo := k) (Nat.mul_one _) ?_
      intro ac58 adr56 had57 En59
      have hb60 : k < List.length lg := by omega
      obtain ⟨⟨a_x62, c_x62, x62⟩, hx61⟩ : ∃ x, (lg)[k]? = some x := ⟨_, List.getElem?_eq_getElem hb60⟩
      obtain i_x62 := ig.each _ (List.mem_of_getElem? hx61)
      replace i_x62 : InB w [] a_x62 c_x62 x62 := i_x62
      refine from_op (by kernel_rfl) ?_
      refine op_loadf (d := some 24) (t := 22) (ad := adr56) (ao := ag) (ys := List.flatMap (fun s : Sl UInt8 => s.f) lg) (o := k) (v := .slice a_x62 (List.length x62) c_x62) En59 (by kernel_rfl) rfl (ig.ro.ev Hv19).reads had57 ((flat_get1 (fun _ _ => rfl) hx61).trans rfl) (by kernel_rfl) ?_
      intro ac63 En64
      refine from_op (by kernel_rfl) ?_
      have hM65 : Heap wo17 [] := Hv19.heap.pick [] (by kernel_rfl) (by decide)
      refine op_call (d := some 25) (f := 31) (args := #[.slice a_x32 (List.length x32) c_x32, .slice a_x62 (List.length x62) c_x62]) En64 (by kernel_rfl) ((equal_go _ a_x32 (List.length x32) c_x32 x32 (by first | rfl | (simp; done) | (simp; omega) | omega) ((i_x32.ev Hv19).pick [] (by kernel_rfl)) a_x62 (List.length x62) c_x62 x62 (by first | rfl | (simp; done) | (simp; omega) | omega) ((i_x62.ev Hv19).pick [] (by kernel_rfl))).mono ?_)
      rintro _ wo67 ⟨rfl, he70⟩
      refine ⟨_, rfl, ?_⟩
      intro ac66 En68
      have Hv69 : Ev w [] wo67 [.box bk1 [.slice ag (List.length lg) cg, .slice ao (List.length lo) co] 34] := Hv19.trans (Ev.call (R := [.box bk1 [.slice ag (List.length lg) cg, .slice ao (List.length lo) co] 34]) Hv19.heap [0] (by kernel_rfl) (by decide) he70)
      clear hM65 he70
      refine d_pures [(1, .pointer (some ⟨bk1, 0, none⟩)), (3, .int .i64 ((k : Nat) : Int)), (6, .slice ao (List.length lo) co), (7, .int .i64 ((List.length lo : Nat) : Int)), (8, .int .i64 ((k : Nat) : Int)), (27, .bool (!(x32 == x62)))] [.bool (!(x32 == x62)), .bool (!(x32 == x62))] 15 En68 (by kernel_rfl) (by kernel_rfl) rfl ?_
      intro ac71 En72
      refine from_end (by kernel_rfl) ?_
      refine then_normal ?_
      refine cond_at En72 (t := !(x32 == x62)) (by kernel_rfl) (fun hc73 => ?_) (fun hc73 => ?_)
      ·
        refine wp_seq ?_
        refine region_from ?_  -- region 5
        refine d_pures [(1, .pointer (some ⟨bk1, 0, none⟩)), (2, .int .i64 ((k : Nat) : Int)), (3, .int .i64 ((k : Nat) : Int)), (6, .slice ao (List.length lo) co), (7, .int .i64 ((List.length lo : Nat) : Int)), (8, .int .i64 ((k : Nat) : Int))] [.int .i64 ((k : Nat) : Int), .int .i64 ((k : Nat) : Int)] 2 En72 (by kernel_rfl) (by kernel_rfl) rfl ?_
        intro ac74 En75
        refine from_end (by kernel_rfl) ?_
        refine then_normal ?_
        refine wp_ret ?_
        refine block_ret ?_
        refine then_ret ?_
        refine then_ret ?_
        refine block_ret ?_
        refine then_ret ?_
        refine d_ret1 (t := 2) (v := .int .i64 ((k : Nat) : Int)) En75 (by kernel_rfl) (by kernel_rfl) ?_
        have e : brkF lo lg = ((k : Nat) : Int) := firstAt_yes (by omega) (by rw [brk_at hx31 hx61]; first | exact hc73 | simpa using hc73) hn1
        exact ⟨by rw [e], Hv69.pick [] (by kernel_rfl) (by decide)⟩
      ·
        refine wp_skip ?_
        refine block_normal ?_
        refine then_normal ?_
        refine region_from ?_  -- region 6
        refine d_pures [(1, .pointer (some ⟨bk1, 0, none⟩)), (3, .int .i64 ((k : Nat) : Int)), (6, .slice ao (List.length lo) co), (7, .int .i64 ((List.length lo : Nat) : Int)), (8, .int .i64 ((k : Nat) : Int)), (29, .int .i64 (IntKind.wrap .i64 (((k : Nat) : Int) + (1 : Int))))] [.int .i64 (IntKind.wrap .i64 (((k : Nat) : Int) + (1 : Int)))] 1 En72 (by kernel_rfl) (by kernel_rfl) rfl ?_
        intro ac76 En77
        rw [Go.Dbr.wr64 (e := ((k : Nat) : Int) + (1 : Int)) (x := ((k + 1 : Nat) : Int)) (by omega) (by omega) (by omega)] at En77
        refine d_pures [(1, .pointer (some ⟨bk1, 0, none⟩)), (3, .int .i64 ((k : Nat) : Int)), (6, .slice ao (List.length lo) co), (7, .int .i64 ((List.length lo : Nat) : Int)), (8, .int .i64 ((k + 1 : Nat) : Int))] [.int .i64 ((k + 1 : Nat) : Int)] 2 En77 (by kernel_rfl) (by kernel_rfl) rfl ?_
        intro ac78 En79
        refine from_end (by kernel_rfl) ?_
        refine then_normal ?_
        refine ⟨_, ⟨k + 1, rfl, En79.sub (by kernel_rfl), Hv69.pick [0] (by kernel_rfl) (by decide), by omega, firstAt_step hn1 (by rw [brk_at hx31 hx61]; first | exact hc73 | simpa using hc73)⟩, ?_⟩
        omega
  ·
    replace hc23 : ¬ (((k : Nat) : Int) < ((List.length lo : Nat) : Int)) := of_decide_eq_false hc23
    refine wp_exit ?_
    refine then_exit ?_
    refine then_exit ?_
    refine block_exit ?_
    refine then_normal ?_
    refine wp_seq ?_
    refine region_from ?_  -- region 7
    refine d_pures [(1, .pointer (some ⟨bk1, 0, none⟩)), (2, .int .i64 (-1)), (6, .slice ao (List.length lo) co), (7, .int .i64 ((List.length lo : Nat) : Int)), (8, .int .i64 ((k : Nat) : Int))] [.int .i64 (-1)] 1 En22 (by kernel_rfl) (by kernel_rfl) rfl ?_
    intro ac80 En81
    refine from_end (by kernel_rfl) ?_
    refine then_normal ?_
    refine wp_ret ?_
    refine d_ret1 (t := 2) (v := .int .i64 (-1)) En81 (by kernel_rfl) (by kernel_rfl) ?_
    have hkk : k = List.length lo := by omega
    have e : brkF lo lg = -1 := firstAt_no (by rw [← hkk]; exact hn1)
    exact ⟨by rw [e], Hv19.pick [] (by kernel_rfl) (by decide)⟩

theorem break_ref (w : World) (ag : Option Addr) (ng cg : Nat) (lg : List (Sl UInt8)) (eg : ng = List.length lg) (ig : InS (fun s : Sl UInt8 => s.f) 24 (fun x : Sl UInt8 => InB w [] x.a x.c x.l) w [] ag cg lg) (ao : Option Addr) (no co : Nat) (lo : List (Sl UInt8)) (eo : no = List.length lo) (io : InS (fun s : Sl UInt8 => s.f) 24 (fun x : Sl UInt8 => InB w [] x.a x.c x.l) w [] ao co lo) : Calls Try.prog 12 #[.agg #[.slice ag ng cg, .slice ao no co]] w fun e w' => e = .returned (.int .i64 (brkF lo lg)) ∧ Ev w [] w' [] := by
  subst eo eg
  have hs1 := io.small
  have hs2 := ig.small
  have hc1 := io.cap
  have hc2 := ig.cap
  refine d_start [(0, .agg #[.slice ag (List.length lg) cg, .slice ao (List.length lo) co])] 32 Go.Proofs.Try.func12 Go.Proofs.Try.ntmps12 rfl (by kernel_rfl) (by kernel_rfl) ?_
  intro act0 En0
  have Hv0 : Ev w [] w [] := Ev.refl (Heap.nil _)
  refine wp_seq ?_
  refine region_from ?_  -- region 0
  refine from_op (by kernel_rfl) ?_
  refine op_newbox (d := some 1) (T := 34) (v := .agg #[.slice ag (List.length lg) cg, .slice ao (List.length lo) co]) (cs := [.slice ag (List.length lg) cg, .slice ao (List.length lo) co]) En0 (by kernel_rfl) rfl Hv0 ?_
  intro ac2 wo3 bk1 En4 Hv5
  refine d_pures [(1, .pointer (some ⟨bk1, 0, none⟩)), (2, .int .i64 0)] [.int .i64 0] 2 En4 (by kernel_rfl) (by kernel_rfl) rfl ?_
  intro ac6 En7
  refine from_end (by kernel_rfl) ?_
  refine then_normal ?_
  refine wp_seq ?_
  refine wp_seq ?_
  refine region_from ?_  -- region 1
  refine d_pures [(1, .pointer (some ⟨bk1, 0, none⟩)), (2, .int .i64 0), (3, .int .i64 0)] [.int .i64 0] 1 En7 (by kernel_rfl) (by kernel_rfl) rfl ?_
  intro ac8 En9
  refine from_end (by kernel_rfl) ?_
  refine then_normal ?_
  refine wp_block ?_
  refine loop_m (fun ms10 ac wo => ∃ (k : Nat), ms10 = (List.length lo - k : Nat) ∧ Env ac 32 [(1, .pointer (some ⟨bk1, 0, none⟩)), (3, .int .i64 ((k : Nat) : Int))] ∧ Ev w [] wo [.box bk1 [.slice ag (List.length lg) cg, .slice ao (List.length lo) co] 34] ∧ (k ≤ List.length lo) ∧ (∀ j, j < k → brkB lo lg j = false)) ⟨_, 0, rfl, En9.sub (by kernel_rfl), Hv5.pick [0] (by kernel_rfl) (by decide), by omega, fun j hj => by omega⟩ ?_
  rintro mm16 ac12 wo13 ⟨k, rfl, En14, Hv15, hk, hn1⟩
  refine wp_seq ?_
  refine wp_seq ?_
  refine region_from ?_  -- region 2
  refine d_pures [(1, .pointer (some ⟨bk1, 0, none⟩)), (3, .int .i64 ((k : Nat) : Int)), (4, .int .i64 ((k : Nat) : Int)), (5, .pointer (some ⟨bk1, 1, none⟩))] [.int .i64 ((k : Nat) : Int), .pointer (some ⟨bk1, 1, none⟩)] 2 En14 (by kernel_rfl) (by kernel_rfl) rfl ?_
  intro ac17 En18
  refine from_op (by kernel_rfl) ?_
  refine op_loadbox (d := some 6) (t := 32) (b := bk1) (off := 1) (k := 0) (v := .slice ao (List.length lo) co) En18 (by kernel_rfl) Hv15 rfl rfl (by kernel_rfl) ?_
  intro ac19 En20
  refine d_pures [(1, .pointer (some ⟨bk1, 0, none⟩)), (3, .int .i64 ((k : Nat) : Int)), (8, .bool (decide (((k : Nat) : Int) < ((List.length lo : Nat) : Int))))] [.int .i64 ((List.length lo : Nat) : Int), .bool (decide (((k : Nat) : Int) < ((List.length lo : Nat) : Int)))] 5 En20 (by kernel_rfl) (by kernel_rfl) rfl ?_
  intro ac21 En22
  refine from_end (by kernel_rfl) ?_
  refine then_normal ?_
  refine cond_at En22 (t := decide (((k : Nat) : Int) < ((List.length lo : Nat) : Int))) (by kernel_rfl) (fun hc23 => ?_) (fun hc23 => ?_)
  ·
    replace hc23 : ((k : Nat) : Int) < ((List.length lo : Nat) : Int) := of_decide_eq_true hc23
    refine wp_skip ?_
    refine then_normal ?_
    refine wp_seq ?_
    refine wp_block ?_
    refine wp_seq ?_
    rcases Bool.eq_false_or_eq_true (decide (((k : Nat) : Int) ≥ ((List.length lg : Nat) : Int))) with hb24 | hb24
    ·
      have hb24p : ((k : Nat) : Int) ≥ ((List.length lg : Nat) : Int) := of_decide_eq_true hb24
      have hb25 : k < List.length lo := by omega
      obtain ⟨⟨a_x27, c_x27, x27⟩, hx26⟩ : ∃ x, (lo)[k]? = some x := ⟨_, List.getElem?_eq_getElem hb25⟩
      obtain i_x27 := io.each _ (List.mem_of_getElem? hx26)
      replace i_x27 : InB w [] a_x27 c_x27 x27 := i_x27
      refine region_cut (F := fun ac wo => Env ac 32 [(1, .pointer (some ⟨bk1, 0, none⟩)), (3, .int .i64 ((k : Nat) : Int)), (30, .bool true)] ∧ Ev w [] wo [.box bk1 [.slice ag (List.length lg) cg, .slice ao (List.length lo) co] 34]) ?_ ?_
      ·
        refine draw_any (by kernel_rfl) 20 (by kernel_rfl) ?_  -- region 4
        have wo28 := Hv15.trans (Ev.drew Hv15.heap)
        refine any_pureR (d := some 11) En22 (v := .int .i64 ((k : Nat) : Int)) 0 (by kernel_rfl) (by kernel_rfl) rfl ?_
        intro ac29 En30
        refine any_pureR (d := some 12) En30 (v := .pointer (some ⟨bk1, 0, none⟩)) 1 (by kernel_rfl) (by kernel_rfl) rfl ?_
        intro ac31 En32
        refine any_at 2 (by kernel_rfl) rfl ?_
        refine op_loadbox (d := some 13) (t := 32) (b := bk1) (off := 0) (k := 0) (v := .slice ag (List.length lg) cg) En32 (by kernel_rfl) wo28 rfl rfl (by kernel_rfl) ?_
        intro ac33 En34
        refine any_pureR (d := some 14) En34 (v := .int .i64 ((List.length lg : Nat) : Int)) 3 (by kernel_rfl) (by kernel_rfl) rfl ?_
        intro ac35 En36
        refine any_pureR (d := some 15) En36 (v := .bool (decide (((k : Nat) : Int) ≥ ((List.length lg : Nat) : Int)))) 4 (by kernel_rfl) (by kernel_rfl) rfl ?_
        intro ac37 En38
        refine any_pureR (d := some 16) En38 (v := .bool (decide (((k : Nat) : Int) ≥ ((List.length lg : Nat) : Int)))) 5 (by kernel_rfl) (by kernel_rfl) rfl ?_
        intro ac39 En40
        rw [hb24] at En40
        refine any_skip (d := some 17) En40 6 (by kernel_rfl) (by kernel_rfl) rfl ?_
        intro ac41 En42
        refine any_skip (d := some 18) En42 7 (by kernel_rfl) (by kernel_rfl) rfl ?_
        intro ac43 En44
        refine any_skip (d := some 19) En44 8 (by kernel_rfl) (by kernel_rfl) rfl ?_
        intro ac45 En46
        refine any_skip (d := some 20) En46 9 (by kernel_rfl) (by kernel_rfl) rfl ?_
        intro ac47 En48
        refine any_skip (d := some 21) En48 10 (by kernel_rfl) (by kernel_rfl) rfl ?_
        intro ac49 En50
        refine any_skip (d := some 22) En50 11 (by kernel_rfl) (by kernel_rfl) rfl ?_
        intro ac51 En52
        refine any_skip (d := some 23) En52 12 (by kernel_rfl) (by kernel_rfl) rfl ?_
        intro ac53 En54
        refine any_skip (d := some 24) En54 13 (by kernel_rfl) (by kernel_rfl) rfl ?_
        intro ac55 En56
        refine any_skip (d := some 25) En56 14 (by kernel_rfl) (by kernel_rfl) rfl ?_
        intro ac57 En58
        refine any_skip (d := some 26) En58 15 (by kernel_rfl) (by kernel_rfl) rfl ?_
        intro ac59 En60
        refine any_skip (d := some 27) En60 16 (by kernel_rfl) (by kernel_rfl) rfl ?_
        intro ac61 En62
        refine any_skip (d := some 28) En62 17 (by kernel_rfl) (by kernel_rfl) rfl ?_
        intro ac63 En64
        refine any_skip (d := some 29) En64 18 (by kernel_rfl) (by kernel_rfl) rfl ?_
        intro ac65 En66
        refine any_pureR (d := some 30) En66 (v := .bool true) 19 (by kernel_rfl) (by kernel_rfl) rfl ?_
        intro ac67 En68
        exact any_end (by kernel_rfl) ⟨En68.sub (by kernel_rfl), wo28.pick [0] (by kernel_rfl) (by decide)⟩
      rintro ac69 wo70 ⟨En71, Hv72⟩
      refine then_normal ?_
      refine cond_true En71 (t := true) (by kernel_rfl) rfl ?_
      refine wp_seq ?_
      refine region_from ?_  -- region 5
      refine d_pures [(1, .pointer (some ⟨bk1, 0, none⟩)), (2, .int .i64 ((k : Nat) : Int)), (3, .int .i64 ((k : Nat) : Int))] [.int .i64 ((k : Nat) : Int), .int .i64 ((k : Nat) : Int)] 2 En71 (by kernel_rfl) (by kernel_rfl) rfl ?_
      intro ac73 En74
      refine from_end (by kernel_rfl) ?_
      refine then_normal ?_
      refine wp_ret ?_
      refine block_ret ?_
      refine then_ret ?_
      refine then_ret ?_
      refine block_ret ?_
      refine then_ret ?_
      refine d_ret1 (t := 2) (v := .int .i64 ((k : Nat) : Int)) En74 (by kernel_rfl) (by kernel_rfl) ?_
      have e : brkF lo lg = ((k : Nat) : Int) := firstAt_yes (by omega) (by exact brk_past (by omega)) hn1
      exact ⟨by rw [e], Hv72.pick [] (by kernel_rfl) (by decide)⟩
    ·
      have hb24p : ¬ (((k : Nat) : Int) ≥ ((List.length lg : Nat) : Int)) := of_decide_eq_false hb24
      have hb75 : k < List.length lo := by omega
      obtain ⟨⟨a_x77, c_x77, x77⟩, hx76⟩ : ∃ x, (lo)[k]? = some x := ⟨_, List.getElem?_eq_getElem hb75⟩
      obtain i_x77 := io.each _ (List.mem_of_getElem? hx76)
      replace i_x77 : InB w [] a_x77 c_x77 x77 := i_x77
      have hb78 : k < List.length lg := by omega
      obtain ⟨⟨a_x80, c_x80, x80⟩, hx79⟩ : ∃ x, (lg)[k]? = some x := ⟨_, List.getElem?_eq_getElem hb78⟩
      obtain i_x80 := ig.each _ (List.mem_of_getElem? hx79)
      replace i_x80 : InB w [] a_x80 c_x80 x80 := i_x80
      refine region_cut (F := fun ac wo => Env ac 32 [(1, .pointer (some ⟨bk1, 0, none⟩)), (3, .int .i64 ((k : Nat) : Int)), (30, .bool (!(x77 == x80)))] ∧ Ev w [] wo [.box bk1 [.slice ag (List.length lg) cg, .slice ao (List.length lo) co] 34]) ?_ ?_
      ·
        refine draw_any (by kernel_rfl) 20 (by kernel_rfl) ?_  -- region 4
        have wo81 := Hv15.trans (Ev.drew Hv15.heap)
        refine any_pureR (d := some 11) En22 (v := .int .i64 ((k : Nat) : Int)) 0 (by kernel_rfl) (by kernel_rfl) rfl ?_
        intro ac82 En83
        refine any_pureR (d := some 12) En83 (v := .pointer (some ⟨bk1, 0, none⟩)) 1 (by kernel_rfl) (by kernel_rfl) rfl ?_
        intro ac84 En85
        refine any_at 2 (by kernel_rfl) rfl ?_
        refine op_loadbox (d := some 13) (t := 32) (b := bk1) (off := 0) (k := 0) (v := .slice ag (List.length lg) cg) En85 (by kernel_rfl) wo81 rfl rfl (by kernel_rfl) ?_
        intro ac86 En87
        refine any_pureR (d := some 14) En87 (v := .int .i64 ((List.length lg : Nat) : Int)) 3 (by kernel_rfl) (by kernel_rfl) rfl ?_
        intro ac88 En89
        refine any_pureR (d := some 15) En89 (v := .bool (decide (((k : Nat) : Int) ≥ ((List.length lg : Nat) : Int)))) 4 (by kernel_rfl) (by kernel_rfl) rfl ?_
        intro ac90 En91
        refine any_pureR (d := some 16) En91 (v := .bool (decide (((k : Nat) : Int) ≥ ((List.length lg : Nat) : Int)))) 5 (by kernel_rfl) (by kernel_rfl) rfl ?_
        intro ac92 En93
        rw [hb24] at En93
        refine any_pureR (d := some 17) En93 (v := .pointer (some ⟨bk1, 1, none⟩)) 6 (by kernel_rfl) (by kernel_rfl) rfl ?_
        intro ac94 En95
        refine any_pureR (d := some 19) En95 (v := .int .i64 ((k : Nat) : Int)) 8 (by kernel_rfl) (by kernel_rfl) rfl ?_
        intro ac96 En97
        refine any_pureR (d := some 23) En97 (v := .pointer (some ⟨bk1, 0, none⟩)) 12 (by kernel_rfl) (by kernel_rfl) rfl ?_
        intro ac98 En99
        refine any_pureR (d := some 25) En99 (v := .int .i64 ((k : Nat) : Int)) 14 (by kernel_rfl) (by kernel_rfl) rfl ?_
        intro ac100 En101
        refine any_two 7 13 (by kernel_rfl) ?_ ?_
        · rintro _ rfl
          refine op_loadbox (d := some 18) (t := 32) (b := bk1) (off := 1) (k := 0) (v := .slice ao (List.length lo) co) En101 (by kernel_rfl) wo81 rfl rfl (by kernel_rfl) ?_
          intro ac102 En103
          refine any_two 9 13 (by kernel_rfl) ?_ ?_
          · rintro _ rfl
            refine op_index (d := some 20) (t := 32) (e := 22) (sz := 1) (len := List.length lo) (cap := co) (j := k) (ao := ao) (k := .i64) (ix := ((k : Nat) : Int)) En103 (by kernel_rfl) io.nz (by kernel_rfl) (by kernel_rfl) (by omega) (by omega) (jo := k) (Nat.mul_one _) ?_
            intro ac106 adr104 had105 En107
            refine any_two 10 13 (by kernel_rfl) ?_ ?_
            · rintro _ rfl
              refine op_loadf (d := some 21) (t := 22) (ad := adr104) (ao := ao) (ys := List.flatMap (fun s : Sl UInt8 => s.f) lo) (o := k) (v := .slice a_x77 (List.length x77) c_x77) En107 (by kernel_rfl) rfl (io.ro.ev wo81).reads had105 ((flat_get1 (fun _ _ => rfl) hx76).trans rfl) (by kernel_rfl) ?_
              intro ac108 En109
              refine any_two 11 13 (by kernel_rfl) ?_ ?_
              · rintro _ rfl
                refine op_str (d := some 22) (src := 22) (dst := 9) (e := 5) (ao := a_x77) (cap := c_x77) (p := List.length x77) (bs := x77) En109 (by kernel_rfl) rfl (by kernel_rfl) (by kernel_rfl) (by kernel_rfl) (i_x77.ev wo81).reads i_x77.nz ?_
                intro ac110 En111
                refine any_at 13 (by kernel_rfl) rfl ?_
                refine op_loadbox (d := some 24) (t := 32) (b := bk1) (off := 0) (k := 0) (v := .slice ag (List.length lg) cg) En111 (by kernel_rfl) wo81 rfl rfl (by kernel_rfl) ?_
                intro ac112 En113
                refine any_at 15 (by kernel_rfl) rfl ?_
                refine op_index (d := some 26) (t := 32) (e := 22) (sz := 1) (len := List.length lg) (cap := cg) (j := k) (ao := ag) (k := .i64) (ix := ((k : Nat) : Int)) En113 (by kernel_rfl) ig.nz (by kernel_rfl) (by kernel_rfl) (by omega) (by omega) (jo := k) (Nat.mul_one _) ?_
                intro ac116 adr114 had115 En117
                refine any_at 16 (by kernel_rfl) rfl ?_
                refine op_loadf (d := some 27) (t := 22) (ad := adr114) (ao := ag) (ys := List.flatMap (fun s : Sl UInt8 => s.f) lg) (o := k) (v := .slice a_x80 (List.length x80) c_x80) En117 (by kernel_rfl) rfl (ig.ro.ev wo81).reads had115 ((flat_get1 (fun _ _ => rfl) hx79).trans rfl) (by kernel_rfl) ?_
                intro ac118 En119
                refine any_at 17 (by kernel_rfl) rfl ?_
                refine op_str (d := some 28) (src := 22) (dst := 9) (e := 5) (ao := a_x80) (cap := c_x80) (p := List.length x80) (bs := x80) En119 (by kernel_rfl) rfl (by kernel_rfl) (by kernel_rfl) (by kernel_rfl) (i_x80.ev wo81).reads i_x80.nz ?_
                intro ac120 En121
                refine any_pureR (d := some 29) En121 (v := .bool (!(ByteArray.toList (bstr x77) == ByteArray.toList (bstr x80)))) 18 (by kernel_rfl) (by kernel_rfl) rfl ?_
                intro ac122 En123
                rw [Go.Dbr.bstr_eq x77 x80] at En123
                refine any_pureR (d := some 30) En123 (v := .bool (!(x77 == x80))) 19 (by kernel_rfl) (by kernel_rfl) rfl ?_
                intro ac124 En125
                exact any_end (by kernel_rfl) ⟨En125.sub (by kernel_rfl), wo81.pick [0] (by kernel_rfl) (by decide)⟩
              · rintro _ rfl
                refine op_loadbox (d := some 24) (t := 32) (b := bk1) (off := 0) (k := 0) (v := .slice ag (List.length lg) cg) En109 (by kernel_rfl) wo81 rfl rfl (by kernel_rfl) ?_
                intro ac126 En127
                refine any_two 11 15 (by kernel_rfl) ?_ ?_
                · rintro _ rfl
                  refine op_str (d := some 22) (src := 22) (dst := 9) (e := 5) (ao := a_x77) (cap := c_x77) (p := List.length x77) (bs := x77) En127 (by kernel_rfl) rfl (by kernel_rfl) (by kernel_rfl) (by kernel_rfl) (i_x77.ev wo81).reads i_x77.nz ?_
                  intro ac128 En129
                  refine any_at 15 (by kernel_rfl) rfl ?_
                  refine op_index (d := some 26) (t := 32) (e := 22) (sz := 1) (len := List.length lg) (cap := cg) (j := k) (ao := ag) (k := .i64) (ix := ((k : Nat) : Int)) En129 (by kernel_rfl) ig.nz (by kernel_rfl) (by kernel_rfl) (by omega) (by omega) (jo := k) (Nat.mul_one _) ?_
                  intro ac132 adr130 had131 En133
                  refine any_at 16 (by kernel_rfl) rfl ?_
                  refine op_loadf (d := some 27) (t := 22) (ad := adr130) (ao := ag) (ys := List.flatMap (fun s : Sl UInt8 => s.f) lg) (o := k) (v := .slice a_x80 (List.length x80) c_x80) En133 (by kernel_rfl) rfl (ig.ro.ev wo81).reads had131 ((flat_get1 (fun _ _ => rfl) hx79).trans rfl) (by kernel_rfl) ?_
                  intro ac134 En135
                  refine any_at 17 (by kernel_rfl) rfl ?_
                  refine op_str (d := some 28) (src := 22) (dst := 9) (e := 5) (ao := a_x80) (cap := c_x80) (p := List.length x80) (bs := x80) En135 (by kernel_rfl) rfl (by kernel_rfl) (by kernel_rfl) (by kernel_rfl) (i_x80.ev wo81).reads i_x80.nz ?_
                  intro ac136 En137
                  refine any_pureR (d := some 29) En137 (v := .bool (!(ByteArray.toList (bstr x77) == ByteArray.toList (bstr x80)))) 18 (by kernel_rfl) (by kernel_rfl) rfl ?_
                  intro ac138 En139
                  rw [Go.Dbr.bstr_eq x77 x80] at En139
                  refine any_pureR (d := some 30) En139 (v := .bool (!(x77 == x80))) 19 (by kernel_rfl) (by kernel_rfl) rfl ?_
                  intro ac140 En141
                  exact any_end (by kernel_rfl) ⟨En141.sub (by kernel_rfl), wo81.pick [0] (by kernel_rfl) (by decide)⟩
                · rintro _ rfl
                  refine op_index (d := some 26) (t := 32) (e := 22) (sz := 1) (len := List.length lg) (cap := cg) (j := k) (ao := ag) (k := .i64) (ix := ((k : Nat) : Int)) En127 (by kernel_rfl) ig.nz (by kernel_rfl) (by kernel_rfl) (by omega) (by omega) (jo := k) (Nat.mul_one _) ?_
                  intro ac144 adr142 had143 En145
                  refine any_two 11 16 (by kernel_rfl) ?_ ?_
                  · rintro _ rfl
                    refine op_str (d := some 22) (src := 22) (dst := 9) (e := 5) (ao := a_x77) (cap := c_x77) (p := List.length x77) (bs := x77) En145 (by kernel_rfl) rfl (by kernel_rfl) (by kernel_rfl) (by kernel_rfl) (i_x77.ev wo81).reads i_x77.nz ?_
                    intro ac146 En147
                    refine any_at 16 (by kernel_rfl) rfl ?_
                    refine op_loadf (d := some 27) (t := 22) (ad := adr142) (ao := ag) (ys := List.flatMap (fun s : Sl UInt8 => s.f) lg) (o := k) (v := .slice a_x80 (List.length x80) c_x80) En147 (by kernel_rfl) rfl (ig.ro.ev wo81).reads had143 ((flat_get1 (fun _ _ => rfl) hx79).trans rfl) (by kernel_rfl) ?_
                    intro ac148 En149
                    refine any_at 17 (by kernel_rfl) rfl ?_
                    refine op_str (d := some 28) (src := 22) (dst := 9) (e := 5) (ao := a_x80) (cap := c_x80) (p := List.length x80) (bs := x80) En149 (by kernel_rfl) rfl (by kernel_rfl) (by kernel_rfl) (by kernel_rfl) (i_x80.ev wo81).reads i_x80.nz ?_
                    intro ac150 En151
                    refine any_pureR (d := some 29) En151 (v := .bool (!(ByteArray.toList (bstr x77) == ByteArray.toList (bstr x80)))) 18 (by kernel_rfl) (by kernel_rfl) rfl ?_
                    intro ac152 En153
                    rw [Go.Dbr.bstr_eq x77 x80] at En153
                    refine any_pureR (d := some 30) En153 (v := .bool (!(x77 == x80))) 19 (by kernel_rfl) (by kernel_rfl) rfl ?_
                    intro ac154 En155
                    exact any_end (by kernel_rfl) ⟨En155.sub (by kernel_rfl), wo81.pick [0] (by kernel_rfl) (by decide)⟩
                  · rintro _ rfl
                    refine op_loadf (d := some 27) (t := 22) (ad := adr142) (ao := ag) (ys := List.flatMap (fun s : Sl UInt8 => s.f) lg) (o := k) (v := .slice a_x80 (List.length x80) c_x80) En145 (by kernel_rfl) rfl (ig.ro.ev wo81).reads had143 ((flat_get1 (fun _ _ => rfl) hx79).trans rfl) (by kernel_rfl) ?_
                    intro ac156 En157
                    refine any_two 11 17 (by kernel_rfl) ?_ ?_
                    · rintro _ rfl
                      refine op_str (d := some 22) (src := 22) (dst := 9) (e := 5) (ao := a_x77) (cap := c_x77) (p := List.length x77) (bs := x77) En157 (by kernel_rfl) rfl (by kernel_rfl) (by kernel_rfl) (by kernel_rfl) (i_x77.ev wo81).reads i_x77.nz ?_
                      intro ac158 En159
                      refine any_at 17 (by kernel_rfl) rfl ?_
                      refine op_str (d := some 28) (src := 22) (dst := 9) (e := 5) (ao := a_x80) (cap := c_x80) (p := List.length x80) (bs := x80) En159 (by kernel_rfl) rfl (by kernel_rfl) (by kernel_rfl) (by kernel_rfl) (i_x80.ev wo81).reads i_x80.nz ?_
                      intro ac160 En161
                      refine any_pureR (d := some 29) En161 (v := .bool (!(ByteArray.toList (bstr x77) == ByteArray.toList (bstr x80)))) 18 (by kernel_rfl) (by kernel_rfl) rfl ?_
                      intro ac162 En163
                      rw [Go.Dbr.bstr_eq x77 x80] at En163
                      refine any_pureR (d := some 30) En163 (v := .bool (!(x77 == x80))) 19 (by kernel_rfl) (by kernel_rfl) rfl ?_
                      intro ac164 En165
                      exact any_end (by kernel_rfl) ⟨En165.sub (by kernel_rfl), wo81.pick [0] (by kernel_rfl) (by decide)⟩
                    · rintro _ rfl
                      refine op_str (d := some 28) (src := 22) (dst := 9) (e := 5) (ao := a_x80) (cap := c_x80) (p := List.length x80) (bs := x80) En157 (by kernel_rfl) rfl (by kernel_rfl) (by kernel_rfl) (by kernel_rfl) (i_x80.ev wo81).reads i_x80.nz ?_
                      intro ac166 En167
                      refine any_at 11 (by kernel_rfl) rfl ?_
                      refine op_str (d := some 22) (src := 22) (dst := 9) (e := 5) (ao := a_x77) (cap := c_x77) (p := List.length x77) (bs := x77) En167 (by kernel_rfl) rfl (by kernel_rfl) (by kernel_rfl) (by kernel_rfl) (i_x77.ev wo81).reads i_x77.nz ?_
                      intro ac168 En169
                      refine any_pureR (d := some 29) En169 (v := .bool (!(ByteArray.toList (bstr x77) == ByteArray.toList (bstr x80)))) 18 (by kernel_rfl) (by kernel_rfl) rfl ?_
                      intro ac170 En171
                      rw [Go.Dbr.bstr_eq x77 x80] at En171
                      refine any_pureR (d := some 30) En171 (v := .bool (!(x77 == x80))) 19 (by kernel_rfl) (by kernel_rfl) rfl ?_
                      intro ac172 En173
                      exact any_end (by kernel_rfl) ⟨En173.sub (by kernel_rfl), wo81.pick [0] (by kernel_rfl) (by decide)⟩
            · rintro _ rfl
              refine op_loadbox (d := some 24) (t := 32) (b := bk1) (off := 0) (k := 0) (v := .slice ag (List.length lg) cg) En107 (by kernel_rfl) wo81 rfl rfl (by kernel_rfl) ?_
              intro ac174 En175
              refine any_two 10 15 (by kernel_rfl) ?_ ?_
              · rintro _ rfl
                refine op_loadf (d := some 21) (t := 22) (ad := adr104) (ao := ao) (ys := List.flatMap (fun s : Sl UInt8 => s.f) lo) (o := k) (v := .slice a_x77 (List.length x77) c_x77) En175 (by kernel_rfl) rfl (io.ro.ev wo81).reads had105 ((flat_get1 (fun _ _ => rfl) hx76).trans rfl) (by kernel_rfl) ?_
                intro ac176 En177
                refine any_two 11 15 (by kernel_rfl) ?_ ?_
                · rintro _ rfl
                  refine op_str (d := some 22) (src := 22) (dst := 9) (e := 5) (ao := a_x77) (cap := c_x77) (p := List.length x77) (bs := x77) En177 (by kernel_rfl) rfl (by kernel_rfl) (by kernel_rfl) (by kernel_rfl) (i_x77.ev wo81).reads i_x77.nz ?_
                  intro ac178 En179
                  refine any_at 15 (by kernel_rfl) rfl ?_
                  refine op_index (d := some 26) (t := 32) (e := 22) (sz := 1) (len := List.length lg) (cap := cg) (j := k) (ao := ag) (k := .i64) (ix := ((k : Nat) : Int)) En179 (by kernel_rfl) ig.nz (by kernel_rfl) (by kernel_rfl) (by omega) (by omega) (jo := k) (Nat.mul_one _) ?_
                  intro ac182 adr180 had181 En183
                  refine any_at 16 (by kernel_rfl) rfl ?_
                  refine op_loadf (d := some 27) (t := 22) (ad := adr180) (ao := ag) (ys := List.flatMap (fun s : Sl UInt8 => s.f) lg) (o := k) (v := .slice a_x80 (List.length x80) c_x80) En183 (by kernel_rfl) rfl (ig.ro.ev wo81).reads had181 ((flat_get1 (fun _ _ => rfl) hx79).trans rfl) (by kernel_rfl) ?_
                  intro ac184 En185
                  refine any_at 17 (by kernel_rfl) rfl ?_
                  refine op_str (d := some 28) (src := 22) (dst := 9) (e := 5) (ao := a_x80) (cap := c_x80) (p := List.length x80) (bs := x80) En185 (by kernel_rfl) rfl (by kernel_rfl) (by kernel_rfl) (by kernel_rfl) (i_x80.ev wo81).reads i_x80.nz ?_
                  intro ac186 En187
                  refine any_pureR (d := some 29) En187 (v := .bool (!(ByteArray.toList (bstr x77) == ByteArray.toList (bstr x80)))) 18 (by kernel_rfl) (by kernel_rfl) rfl ?_
                  intro ac188 En189
                  rw [Go.Dbr.bstr_eq x77 x80] at En189
                  refine any_pureR (d := some 30) En189 (v := .bool (!(x77 == x80))) 19 (by kernel_rfl) (by kernel_rfl) rfl ?_
                  intro ac190 En191
                  exact any_end (by kernel_rfl) ⟨En191.sub (by kernel_rfl), wo81.pick [0] (by kernel_rfl) (by decide)⟩
                · rintro _ rfl
                  refine op_index (d := some 26) (t := 32) (e := 22) (sz := 1) (len := List.length lg) (cap := cg) (j := k) (ao := ag) (k := .i64) (ix := ((k : Nat) : Int)) En177 (by kernel_rfl) ig.nz (by kernel_rfl) (by kernel_rfl) (by omega) (by omega) (jo := k) (Nat.mul_one _) ?_
                  intro ac194 adr192 had193 En195
                  refine any_two 11 16 (by kernel_rfl) ?_ ?_
                  · rintro _ rfl
                    refine op_str (d := some 22) (src := 22) (dst := 9) (e := 5) (ao := a_x77) (cap := c_x77) (p := List.length x77) (bs := x77) En195 (by kernel_rfl) rfl (by kernel_rfl) (by kernel_rfl) (by kernel_rfl) (i_x77.ev wo81).reads i_x77.nz ?_
                    intro ac196 En197
                    refine any_at 16 (by kernel_rfl) rfl ?_
                    refine op_loadf (d := some 27) (t := 22) (ad := adr192) (ao := ag) (ys := List.flatMap (fun s : Sl UInt8 => s.f) lg) (o := k) (v := .slice a_x80 (List.length x80) c_x80) En197 (by kernel_rfl) rfl (ig.ro.ev wo81).reads had193 ((flat_get1 (fun _ _ => rfl) hx79).trans rfl) (by kernel_rfl) ?_
                    intro ac198 En199
                    refine any_at 17 (by kernel_rfl) rfl ?_
                    refine op_str (d := some 28) (src := 22) (dst := 9) (e := 5) (ao := a_x80) (cap := c_x80) (p := List.length x80) (bs := x80) En199 (by kernel_rfl) rfl (by kernel_rfl) (by kernel_rfl) (by kernel_rfl) (i_x80.ev wo81).reads i_x80.nz ?_
                    intro ac200 En201
                    refine any_pureR (d := some 29) En201 (v := .bool (!(ByteArray.toList (bstr x77) == ByteArray.toList (bstr x80)))) 18 (by kernel_rfl) (by kernel_rfl) rfl ?_
                    intro ac202 En203
                    rw [Go.Dbr.bstr_eq x77 x80] at En203
                    refine any_pureR (d := some 30) En203 (v := .bool (!(x77 == x80))) 19 (by kernel_rfl) (by kernel_rfl) rfl ?_
                    intro ac204 En205
                    exact any_end (by kernel_rfl) ⟨En205.sub (by kernel_rfl), wo81.pick [0] (by kernel_rfl) (by decide)⟩
                  · rintro _ rfl
                    refine op_loadf (d := some 27) (t := 22) (ad := adr192) (ao := ag) (ys := List.flatMap (fun s : Sl UInt8 => s.f) lg) (o := k) (v := .slice a_x80 (List.length x80) c_x80) En195 (by kernel_rfl) rfl (ig.ro.ev wo81).reads had193 ((flat_get1 (fun _ _ => rfl) hx79).trans rfl) (by kernel_rfl) ?_
                    intro ac206 En207
                    refine any_two 11 17 (by kernel_rfl) ?_ ?_
                    · rintro _ rfl
                      refine op_str (d := some 22) (src := 22) (dst := 9) (e := 5) (ao := a_x77) (cap := c_x77) (p := List.length x77) (bs := x77) En207 (by kernel_rfl) rfl (by kernel_rfl) (by kernel_rfl) (by kernel_rfl) (i_x77.ev wo81).reads i_x77.nz ?_
                      intro ac208 En209
                      refine any_at 17 (by kernel_rfl) rfl ?_
                      refine op_str (d := some 28) (src := 22) (dst := 9) (e := 5) (ao := a_x80) (cap := c_x80) (p := List.length x80) (bs := x80) En209 (by kernel_rfl) rfl (by kernel_rfl) (by kernel_rfl) (by kernel_rfl) (i_x80.ev wo81).reads i_x80.nz ?_
                      intro ac210 En211
                      refine any_pureR (d := some 29) En211 (v := .bool (!(ByteArray.toList (bstr x77) == ByteArray.toList (bstr x80)))) 18 (by kernel_rfl) (by kernel_rfl) rfl ?_
                      intro ac212 En213
                      rw [Go.Dbr.bstr_eq x77 x80] at En213
                      refine any_pureR (d := some 30) En213 (v := .bool (!(x77 == x80))) 19 (by kernel_rfl) (by kernel_rfl) rfl ?_
                      intro ac214 En215
                      exact any_end (by kernel_rfl) ⟨En215.sub (by kernel_rfl), wo81.pick [0] (by kernel_rfl) (by decide)⟩
                    · rintro _ rfl
                      refine op_str (d := some 28) (src := 22) (dst := 9) (e := 5) (ao := a_x80) (cap := c_x80) (p := List.length x80) (bs := x80) En207 (by kernel_rfl) rfl (by kernel_rfl) (by kernel_rfl) (by kernel_rfl) (i_x80.ev wo81).reads i_x80.nz ?_
                      intro ac216 En217
                      refine any_at 11 (by kernel_rfl) rfl ?_
                      refine op_str (d := some 22) (src := 22) (dst := 9) (e := 5) (ao := a_x77) (cap := c_x77) (p := List.length x77) (bs := x77) En217 (by kernel_rfl) rfl (by kernel_rfl) (by kernel_rfl) (by kernel_rfl) (i_x77.ev wo81).reads i_x77.nz ?_
                      intro ac218 En219
                      refine any_pureR (d := some 29) En219 (v := .bool (!(ByteArray.toList (bstr x77) == ByteArray.toList (bstr x80)))) 18 (by kernel_rfl) (by kernel_rfl) rfl ?_
                      intro ac220 En221
                      rw [Go.Dbr.bstr_eq x77 x80] at En221
                      refine any_pureR (d := some 30) En221 (v := .bool (!(x77 == x80))) 19 (by kernel_rfl) (by kernel_rfl) rfl ?_
                      intro ac222 En223
                      exact any_end (by kernel_rfl) ⟨En223.sub (by kernel_rfl), wo81.pick [0] (by kernel_rfl) (by decide)⟩
              · rintro _ rfl
                refine op_index (d := some 26) (t := 32) (e := 22) (sz := 1) (len := List.length lg) (cap := cg) (j := k) (ao := ag) (k := .i64) (ix := ((k : Nat) : Int)) En175 (by kernel_rfl) ig.nz (by kernel_rfl) (by kernel_rfl) (by omega) (by omega) (jo := k) (Nat.mul_one _) ?_
                intro ac226 adr224 had225 En227
                refine any_two 10 16 (by kernel_rfl) ?_ ?_
                · rintro _ rfl
                  refine op_loadf (d := some 21) (t := 22) (ad := adr104) (ao := ao) (ys := List.flatMap (fun s : Sl UInt8 => s.f) lo) (o := k) (v := .slice a_x77 (List.length x77) c_x77) En227 (by kernel_rfl) rfl (io.ro.ev wo81).reads had105 ((flat_get1 (fun _ _ => rfl) hx76).trans rfl) (by kernel_rfl) ?_
                  intro ac228 En229
                  refine any_two 11 16 (by kernel_rfl) ?_ ?_
                  · rintro _ rfl
                    refine op_str (d := some 22) (src := 22) (dst := 9) (e := 5) (ao := a_x77) (cap := c_x77) (p := List.length x77) (bs := x77) En229 (by kernel_rfl) rfl (by kernel_rfl) (by kernel_rfl) (by kernel_rfl) (i_x77.ev wo81).reads i_x77.nz ?_
                    intro ac230 En231
                    refine any_at 16 (by kernel_rfl) rfl ?_
                    refine op_loadf (d := some 27) (t := 22) (ad := adr224) (ao := ag) (ys := List.flatMap (fun s : Sl UInt8 => s.f) lg) (o := k) (v := .slice a_x80 (List.length x80) c_x80) En231 (by kernel_rfl) rfl (ig.ro.ev wo81).reads had225 ((flat_get1 (fun _ _ => rfl) hx79).trans rfl) (by kernel_rfl) ?_
                    intro ac232 En233
                    refine any_at 17 (by kernel_rfl) rfl ?_
                    refine op_str (d := some 28) (src := 22) (dst := 9) (e := 5) (ao := a_x80) (cap := c_x80) (p := List.length x80) (bs := x80) En233 (by kernel_rfl) rfl (by kernel_rfl) (by kernel_rfl) (by kernel_rfl) (i_x80.ev wo81).reads i_x80.nz ?_
                    intro ac234 En235
                    refine any_pureR (d := some 29) En235 (v := .bool (!(ByteArray.toList (bstr x77) == ByteArray.toList (bstr x80)))) 18 (by kernel_rfl) (by kernel_rfl) rfl ?_
                    intro ac236 En237
                    rw [Go.Dbr.bstr_eq x77 x80] at En237
                    refine any_pureR (d := some 30) En237 (v := .bool (!(x77 == x80))) 19 (by kernel_rfl) (by kernel_rfl) rfl ?_
                    intro ac238 En239
                    exact any_end (by kernel_rfl) ⟨En239.sub (by kernel_rfl), wo81.pick [0] (by kernel_rfl) (by decide)⟩
                  · rintro _ rfl
                    refine op_loadf (d := some 27) (t := 22) (ad := adr224) (ao := ag) (ys := List.flatMap (fun s : Sl UInt8 => s.f) lg) (o := k) (v := .slice a_x80 (List.length x80) c_x80) En229 (by kernel_rfl) rfl (ig.ro.ev wo81).reads had225 ((flat_get1 (fun _ _ => rfl) hx79).trans rfl) (by kernel_rfl) ?_
                    intro ac240 En241
                    refine any_two 11 17 (by kernel_rfl) ?_ ?_
                    · rintro _ rfl
                      refine op_str (d := some 22) (src := 22) (dst := 9) (e := 5) (ao := a_x77) (cap := c_x77) (p := List.length x77) (bs := x77) En241 (by kernel_rfl) rfl (by kernel_rfl) (by kernel_rfl) (by kernel_rfl) (i_x77.ev wo81).reads i_x77.nz ?_
                      intro ac242 En243
                      refine any_at 17 (by kernel_rfl) rfl ?_
                      refine op_str (d := some 28) (src := 22) (dst := 9) (e := 5) (ao := a_x80) (cap := c_x80) (p := List.length x80) (bs := x80) En243 (by kernel_rfl) rfl (by kernel_rfl) (by kernel_rfl) (by kernel_rfl) (i_x80.ev wo81).reads i_x80.nz ?_
                      intro ac244 En245
                      refine any_pureR (d := some 29) En245 (v := .bool (!(ByteArray.toList (bstr x77) == ByteArray.toList (bstr x80)))) 18 (by kernel_rfl) (by kernel_rfl) rfl ?_
                      intro ac246 En247
                      rw [Go.Dbr.bstr_eq x77 x80] at En247
                      refine any_pureR (d := some 30) En247 (v := .bool (!(x77 == x80))) 19 (by kernel_rfl) (by kernel_rfl) rfl ?_
                      intro ac248 En249
                      exact any_end (by kernel_rfl) ⟨En249.sub (by kernel_rfl), wo81.pick [0] (by kernel_rfl) (by decide)⟩
                    · rintro _ rfl
                      refine op_str (d := some 28) (src := 22) (dst := 9) (e := 5) (ao := a_x80) (cap := c_x80) (p := List.length x80) (bs := x80) En241 (by kernel_rfl) rfl (by kernel_rfl) (by kernel_rfl) (by kernel_rfl) (i_x80.ev wo81).reads i_x80.nz ?_
                      intro ac250 En251
                      refine any_at 11 (by kernel_rfl) rfl ?_
                      refine op_str (d := some 22) (src := 22) (dst := 9) (e := 5) (ao := a_x77) (cap := c_x77) (p := List.length x77) (bs := x77) En251 (by kernel_rfl) rfl (by kernel_rfl) (by kernel_rfl) (by kernel_rfl) (i_x77.ev wo81).reads i_x77.nz ?_
                      intro ac252 En253
                      refine any_pureR (d := some 29) En253 (v := .bool (!(ByteArray.toList (bstr x77) == ByteArray.toList (bstr x80)))) 18 (by kernel_rfl) (by kernel_rfl) rfl ?_
                      intro ac254 En255
                      rw [Go.Dbr.bstr_eq x77 x80] at En255
                      refine any_pureR (d := some 30) En255 (v := .bool (!(x77 == x80))) 19 (by kernel_rfl) (by kernel_rfl) rfl ?_
                      intro ac256 En257
                      exact any_end (by kernel_rfl) ⟨En257.sub (by kernel_rfl), wo81.pick [0] (by kernel_rfl) (by decide)⟩
                · rintro _ rfl
                  refine op_loadf (d := some 27) (t := 22) (ad := adr224) (ao := ag) (ys := List.flatMap (fun s : Sl UInt8 => s.f) lg) (o := k) (v := .slice a_x80 (List.length x80) c_x80) En227 (by kernel_rfl) rfl (ig.ro.ev wo81).reads had225 ((flat_get1 (fun _ _ => rfl) hx79).trans rfl) (by kernel_rfl) ?_
                  intro ac258 En259
                  refine any_two 10 17 (by kernel_rfl) ?_ ?_
                  · rintro _ rfl
                    refine op_loadf (d := some 21) (t := 22) (ad := adr104) (ao := ao) (ys := List.flatMap (fun s : Sl UInt8 => s.f) lo) (o := k) (v := .slice a_x77 (List.length x77) c_x77) En259 (by kernel_rfl) rfl (io.ro.ev wo81).reads had105 ((flat_get1 (fun _ _ => rfl) hx76).trans rfl) (by kernel_rfl) ?_
                    intro ac260 En261
                    refine any_two 11 17 (by kernel_rfl) ?_ ?_
                    · rintro _ rfl
                      refine op_str (d := some 22) (src := 22) (dst := 9) (e := 5) (ao := a_x77) (cap := c_x77) (p := List.length x77) (bs := x77) En261 (by kernel_rfl) rfl (by kernel_rfl) (by kernel_rfl) (by kernel_rfl) (i_x77.ev wo81).reads i_x77.nz ?_
                      intro ac262 En263
                      refine any_at 17 (by kernel_rfl) rfl ?_
                      refine op_str (d := some 28) (src := 22) (dst := 9) (e := 5) (ao := a_x80) (cap := c_x80) (p := List.length x80) (bs := x80) En263 (by kernel_rfl) rfl (by kernel_rfl) (by kernel_rfl) (by kernel_rfl) (i_x80.ev wo81).reads i_x80.nz ?_
                      intro ac264 En265
                      refine any_pureR (d := some 29) En265 (v := .bool (!(ByteArray.toList (bstr x77) == ByteArray.toList (bstr x80)))) 18 (by kernel_rfl) (by kernel_rfl) rfl ?_
                      intro ac266 En267
                      rw [Go.Dbr.bstr_eq x77 x80] at En267
                      refine any_pureR (d := some 30) En267 (v := .bool (!(x77 == x80))) 19 (by kernel_rfl) (by kernel_rfl) rfl ?_
                      intro ac268 En269
                      exact any_end (by kernel_rfl) ⟨En269.sub (by kernel_rfl), wo81.pick [0] (by kernel_rfl) (by decide)⟩
                    · rintro _ rfl
                      refine op_str (d := some 28) (src := 22) (dst := 9) (e := 5) (ao := a_x80) (cap := c_x80) (p := List.length x80) (bs := x80) En261 (by kernel_rfl) rfl (by kernel_rfl) (by kernel_rfl) (by kernel_rfl) (i_x80.ev wo81).reads i_x80.nz ?_
                      intro ac270 En271
                      refine any_at 11 (by kernel_rfl) rfl ?_
                      refine op_str (d := some 22) (src := 22) (dst := 9) (e := 5) (ao := a_x77) (cap := c_x77) (p := List.length x77) (bs := x77) En271 (by kernel_rfl) rfl (by kernel_rfl) (by kernel_rfl) (by kernel_rfl) (i_x77.ev wo81).reads i_x77.nz ?_
                      intro ac272 En273
                      refine any_pureR (d := some 29) En273 (v := .bool (!(ByteArray.toList (bstr x77) == ByteArray.toList (bstr x80)))) 18 (by kernel_rfl) (by kernel_rfl) rfl ?_
                      intro ac274 En275
                      rw [Go.Dbr.bstr_eq x77 x80] at En275
                      refine any_pureR (d := some 30) En275 (v := .bool (!(x77 == x80))) 19 (by kernel_rfl) (by kernel_rfl) rfl ?_
                      intro ac276 En277
                      exact any_end (by kernel_rfl) ⟨En277.sub (by kernel_rfl), wo81.pick [0] (by kernel_rfl) (by decide)⟩
                  · rintro _ rfl
                    refine op_str (d := some 28) (src := 22) (dst := 9) (e := 5) (ao := a_x80) (cap := c_x80) (p := List.length x80) (bs := x80) En259 (by kernel_rfl) rfl (by kernel_rfl) (by kernel_rfl) (by kernel_rfl) (i_x80.ev wo81).reads i_x80.nz ?_
                    intro ac278 En279
                    refine any_at 10 (by kernel_rfl) rfl ?_
                    refine op_loadf (d := some 21) (t := 22) (ad := adr104) (ao := ao) (ys := List.flatMap (fun s : Sl UInt8 => s.f) lo) (o := k) (v := .slice a_x77 (List.length x77) c_x77) En279 (by kernel_rfl) rfl (io.ro.ev wo81).reads had105 ((flat_get1 (fun _ _ => rfl) hx76).trans rfl) (by kernel_rfl) ?_
                    intro ac280 En281
                    refine any_at 11 (by kernel_rfl) rfl ?_
                    refine op_str (d := some 22) (src := 22) (dst := 9) (e := 5) (ao := a_x77) (cap := c_x77) (p := List.length x77) (bs := x77) En281 (by kernel_rfl) rfl (by kernel_rfl) (by kernel_rfl) (by kernel_rfl) (i_x77.ev wo81).reads i_x77.nz ?_
                    intro ac282 En283
                    refine any_pureR (d := some 29) En283 (v := .bool (!(ByteArray.toList (bstr x77) == ByteArray.toList (bstr x80)))) 18 (by kernel_rfl) (by kernel_rfl) rfl ?_
                    intro ac284 En285
                    rw [Go.Dbr.bstr_eq x77 x80] at En285
                    refine any_pureR (d := some 30) En285 (v := .bool (!(x77 == x80))) 19 (by kernel_rfl) (by kernel_rfl) rfl ?_
                    intro ac286 En287
                    exact any_end (by kernel_rfl) ⟨En287.sub (by kernel_rfl), wo81.pick [0] (by kernel_rfl) (by decide)⟩
          · rintro _ rfl
            refine op_loadbox (d := some 24) (t := 32) (b := bk1) (off := 0) (k := 0) (v := .slice ag (List.length lg) cg) En103 (by kernel_rfl) wo81 rfl rfl (by kernel_rfl) ?_
            intro ac288 En289
            refine any_two 9 15 (by kernel_rfl) ?_ ?_
            · rintro _ rfl
              refine op_index (d := some 20) (t := 32) (e := 22) (sz := 1) (len := List.length lo) (cap := co) (j := k) (ao := ao) (k := .i64) (ix := ((k : Nat) : Int)) En289 (by kernel_rfl) io.nz (by kernel_rfl) (by kernel_rfl) (by omega) (by omega) (jo := k) (Nat.mul_one _) ?_
              intro ac292 adr290 had291 En293
              refine any_two 10 15 (by kernel_rfl) ?_ ?_
              · rintro _ rfl
                refine op_loadf (d := some 21) (t := 22) (ad := adr290) (ao := ao) (ys := List.flatMap (fun s : Sl UInt8 => s.f) lo) (o := k) (v := .slice a_x77 (List.length x77) c_x77) En293 (by kernel_rfl) rfl (io.ro.ev wo81).reads had291 ((flat_get1 (fun _ _ => rfl) hx76).trans rfl) (by kernel_rfl) ?_
                intro ac294 En295
                refine any_two 11 15 (by kernel_rfl) ?_ ?_
                · rintro _ rfl
                  refine op_str (d := some 22) (src := 22) (dst := 9) (e := 5) (ao := a_x77) (cap := c_x77) (p := List.length x77) (bs := x77) En295 (by kernel_rfl) rfl (by kernel_rfl) (by kernel_rfl) (by kernel_rfl) (i_x77.ev wo81).reads i_x77.nz ?_
                  intro ac296 En297
                  refine any_at 15 (by kernel_rfl) rfl ?_
                  refine op_index (d := some 26) (t := 32) (e := 22) (sz := 1) (len := List.length lg) (cap := cg) (j := k) (ao := ag) (k := .i64) (ix := ((k : Nat) : Int)) En297 (by kernel_rfl) ig.nz (by kernel_rfl) (by kernel_rfl) (by omega) (by omega) (jo := k) (Nat.mul_one _) ?_
                  intro ac300 adr298 had299 En301
                  refine any_at 16 (by kernel_rfl) rfl ?_
                  refine op_loadf (d := some 27) (t := 22) (ad := adr298) (ao := ag) (ys := List.flatMap (fun s : Sl UInt8 => s.f) lg) (o := k) (v := .slice a_x80 (List.length x80) c_x80) En301 (by kernel_rfl) rfl (ig.ro.ev wo81).reads had299 ((flat_get1 (fun _ _ => rfl) hx79).trans rfl) (by kernel_rfl) ?_
                  intro ac302 En303
                  refine any_at 17 (by kernel_rfl) rfl ?_
                  refine op_str (d := some 28) (src := 22) (dst := 9) (e := 5) (ao := a_x80) (cap := c_x80) (p := List.length x80) (bs := x80) En303 (by kernel_rfl) rfl (by kernel_rfl) (by kernel_rfl) (by kernel_rfl) (i_x80.ev wo81).reads i_x80.nz ?_
                  intro ac304 En305
                  refine any_pureR (d := some 29) En305 (v := .bool (!(ByteArray.toList (bstr x77) == ByteArray.toList (bstr x80)))) 18 (by kernel_rfl) (by kernel_rfl) rfl ?_
                  intro ac306 En307
                  rw [Go.Dbr.bstr_eq x77 x80] at En307
                  refine any_pureR (d := some 30) En307 (v := .bool (!(x77 == x80))) 19 (by kernel_rfl) (by kernel_rfl) rfl ?_
                  intro ac308 En309
                  exact any_end (by kernel_rfl) ⟨En309.sub (by kernel_rfl), wo81.pick [0] (by kernel_rfl) (by decide)⟩
                · rintro _ rfl
                  refine op_index (d := some 26) (t := 32) (e := 22) (sz := 1) (len := List.length lg) (cap := cg) (j := k) (ao := ag) (k := .i64) (ix := ((k : Nat) : Int)) En295 (by kernel_rfl) ig.nz (by kernel_rfl) (by kernel_rfl) (by omega) (by omega) (jo := k) (Nat.mul_one _) ?_
                  intro ac312 adr310 had311 En313
                  refine any_two 11 16 (by kernel_rfl) ?_ ?_
                  · rintro _ rfl
                    refine op_str (d := some 22) (src := 22) (dst := 9) (e := 5) (ao := a_x77) (cap := c_x77) (p := List.length x77) (bs := x77) En313 (by kernel_rfl) rfl (by kernel_rfl) (by kernel_rfl) (by kernel_rfl) (i_x77.ev wo81).reads i_x77.nz ?_
                    intro ac314 En315
                    refine any_at 16 (by kernel_rfl) rfl ?_
                    refine op_loadf (d := some 27) (t := 22) (ad := adr310) (ao := ag) (ys := List.flatMap (fun s : Sl UInt8 => s.f) lg) (o := k) (v := .slice a_x80 (List.length x80) c_x80) En315 (by kernel_rfl) rfl (ig.ro.ev wo81).reads had311 ((flat_get1 (fun _ _ => rfl) hx79).trans rfl) (by kernel_rfl) ?_
                    intro ac316 En317
                    refine any_at 17 (by kernel_rfl) rfl ?_
                    refine op_str (d := some 28) (src := 22) (dst := 9) (e := 5) (ao := a_x80) (cap := c_x80) (p := List.length x80) (bs := x80) En317 (by kernel_rfl) rfl (by kernel_rfl) (by kernel_rfl) (by kernel_rfl) (i_x80.ev wo81).reads i_x80.nz ?_
                    intro ac318 En319
                    refine any_pureR (d := some 29) En319 (v := .bool (!(ByteArray.toList (bstr x77) == ByteArray.toList (bstr x80)))) 18 (by kernel_rfl) (by kernel_rfl) rfl ?_
                    intro ac320 En321
                    rw [Go.Dbr.bstr_eq x77 x80] at En321
                    refine any_pureR (d := some 30) En321 (v := .bool (!(x77 == x80))) 19 (by kernel_rfl) (by kernel_rfl) rfl ?_
                    intro ac322 En323
                    exact any_end (by kernel_rfl) ⟨En323.sub (by kernel_rfl), wo81.pick [0] (by kernel_rfl) (by decide)⟩
                  · rintro _ rfl
                    refine op_loadf (d := some 27) (t := 22) (ad := adr310) (ao := ag) (ys := List.flatMap (fun s : Sl UInt8 => s.f) lg) (o := k) (v := .slice a_x80 (List.length x80) c_x80) En313 (by kernel_rfl) rfl (ig.ro.ev wo81).reads had311 ((flat_get1 (fun _ _ => rfl) hx79).trans rfl) (by kernel_rfl) ?_
                    intro ac324 En325
                    refine any_two 11 17 (by kernel_rfl) ?_ ?_
                    · rintro _ rfl
                      refine op_str (d := some 22) (src := 22) (dst := 9) (e := 5) (ao := a_x77) (cap := c_x77) (p := List.length x77) (bs := x77) En325 (by kernel_rfl) rfl (by kernel_rfl) (by kernel_rfl) (by kernel_rfl) (i_x77.ev wo81).reads i_x77.nz ?_
                      intro ac326 En327
                      refine any_at 17 (by kernel_rfl) rfl ?_
                      refine op_str (d := some 28) (src := 22) (dst := 9) (e := 5) (ao := a_x80) (cap := c_x80) (p := List.length x80) (bs := x80) En327 (by kernel_rfl) rfl (by kernel_rfl) (by kernel_rfl) (by kernel_rfl) (i_x80.ev wo81).reads i_x80.nz ?_
                      intro ac328 En329
                      refine any_pureR (d := some 29) En329 (v := .bool (!(ByteArray.toList (bstr x77) == ByteArray.toList (bstr x80)))) 18 (by kernel_rfl) (by kernel_rfl) rfl ?_
                      intro ac330 En331
                      rw [Go.Dbr.bstr_eq x77 x80] at En331
                      refine any_pureR (d := some 30) En331 (v := .bool (!(x77 == x80))) 19 (by kernel_rfl) (by kernel_rfl) rfl ?_
                      intro ac332 En333
                      exact any_end (by kernel_rfl) ⟨En333.sub (by kernel_rfl), wo81.pick [0] (by kernel_rfl) (by decide)⟩
                    · rintro _ rfl
                      refine op_str (d := some 28) (src := 22) (dst := 9) (e := 5) (ao := a_x80) (cap := c_x80) (p := List.length x80) (bs := x80) En325 (by kernel_rfl) rfl (by kernel_rfl) (by kernel_rfl) (by kernel_rfl) (i_x80.ev wo81).reads i_x80.nz ?_
                      intro ac334 En335
                      refine any_at 11 (by kernel_rfl) rfl ?_
                      refine op_str (d := some 22) (src := 22) (dst := 9) (e := 5) (ao := a_x77) (cap := c_x77) (p := List.length x77) (bs := x77) En335 (by kernel_rfl) rfl (by kernel_rfl) (by kernel_rfl) (by kernel_rfl) (i_x77.ev wo81).reads i_x77.nz ?_
                      intro ac336 En337
                      refine any_pureR (d := some 29) En337 (v := .bool (!(ByteArray.toList (bstr x77) == ByteArray.toList (bstr x80)))) 18 (by kernel_rfl) (by kernel_rfl) rfl ?_
                      intro ac338 En339
                      rw [Go.Dbr.bstr_eq x77 x80] at En339
                      refine any_pureR (d := some 30) En339 (v := .bool (!(x77 == x80))) 19 (by kernel_rfl) (by kernel_rfl) rfl ?_
                      intro ac340 En341
                      exact any_end (by kernel_rfl) ⟨En341.sub (by kernel_rfl), wo81.pick [0] (by kernel_rfl) (by decide)⟩
              · rintro _ rfl
                refine op_index (d := some 26) (t := 32) (e := 22) (sz := 1) (len := List.length lg) (cap := cg) (j := k) (ao := ag) (k := .i64) (ix := ((k : Nat) : Int)) En293 (by kernel_rfl) ig.nz (by kernel_rfl) (by kernel_rfl) (by omega) (by omega) (jo := k) (Nat.mul_one _) ?_
                intro ac344 adr342 had343 En345
                refine any_two 10 16 (by kernel_rfl) ?_ ?_
                · rintro _ rfl
                  refine op_loadf (d := some 21) (t := 22) (ad := adr290) (ao := ao) (ys := List.flatMap (fun s : Sl UInt8 => s.f) lo) (o := k) (v := .slice a_x77 (List.length x77) c_x77) En345 (by kernel_rfl) rfl (io.ro.ev wo81).reads had291 ((flat_get1 (fun _ _ => rfl) hx76).trans rfl) (by kernel_rfl) ?_
                  intro ac346 En347
                  refine any_two 11 16 (by kernel_rfl) ?_ ?_
                  · rintro _ rfl
                    refine op_str (d := some 22) (src := 22) (dst := 9) (e := 5) (ao := a_x77) (cap := c_x77) (p := List.length x77) (bs := x77) En347 (by kernel_rfl) rfl (by kernel_rfl) (by kernel_rfl) (by kernel_rfl) (i_x77.ev wo81).reads i_x77.nz ?_
                    intro ac348 En349
                    refine any_at 16 (by kernel_rfl) rfl ?_
                    refine op_loadf (d := some 27) (t := 22) (ad := adr342) (ao := ag) (ys := List.flatMap (fun s : Sl UInt8 => s.f) lg) (o := k) (v := .slice a_x80 (List.length x80) c_x80) En349 (by kernel_rfl) rfl (ig.ro.ev wo81).reads had343 ((flat_get1 (fun _ _ => rfl) hx79).trans rfl) (by kernel_rfl) ?_
                    intro ac350 En351
                    refine any_at 17 (by kernel_rfl) rfl ?_
                    refine op_str (d := some 28) (src := 22) (dst := 9) (e := 5) (ao := a_x80) (cap := c_x80) (p := List.length x80) (bs := x80) En351 (by kernel_rfl) rfl (by kernel_rfl) (by kernel_rfl) (by kernel_rfl) (i_x80.ev wo81).reads i_x80.nz ?_
                    intro ac352 En353
                    refine any_pureR (d := some 29) En353 (v := .bool (!(ByteArray.toList (bstr x77) == ByteArray.toList (bstr x80)))) 18 (by kernel_rfl) (by kernel_rfl) rfl ?_
                    intro ac354 En355
                    rw [Go.Dbr.bstr_eq x77 x80] at En355
                    refine any_pureR (d := some 30) En355 (v := .bool (!(x77 == x80))) 19 (by kernel_rfl) (by kernel_rfl) rfl ?_
                    intro ac356 En357
                    exact any_end (by kernel_rfl) ⟨En357.sub (by kernel_rfl), wo81.pick [0] (by kernel_rfl) (by decide)⟩
                  · rintro _ rfl
                    refine op_loadf (d := some 27) (t := 22) (ad := adr342) (ao := ag) (ys := List.flatMap (fun s : Sl UInt8 => s.f) lg) (o := k) (v := .slice a_x80 (List.length x80) c_x80) En347 (by kernel_rfl) rfl (ig.ro.ev wo81).reads had343 ((flat_get1 (fun _ _ => rfl) hx79).trans rfl) (by kernel_rfl) ?_
                    intro ac358 En359
                    refine any_two 11 17 (by kernel_rfl) ?_ ?_
                    · rintro _ rfl
                      refine op_str (d := some 22) (src := 22) (dst := 9) (e := 5) (ao := a_x77) (cap := c_x77) (p := List.length x77) (bs := x77) En359 (by kernel_rfl) rfl (by kernel_rfl) (by kernel_rfl) (by kernel_rfl) (i_x77.ev wo81).reads i_x77.nz ?_
                      intro ac360 En361
                      refine any_at 17 (by kernel_rfl) rfl ?_
                      refine op_str (d := some 28) (src := 22) (dst := 9) (e := 5) (ao := a_x80) (cap := c_x80) (p := List.length x80) (bs := x80) En361 (by kernel_rfl) rfl (by kernel_rfl) (by kernel_rfl) (by kernel_rfl) (i_x80.ev wo81).reads i_x80.nz ?_
                      intro ac362 En363
                      refine any_pureR (d := some 29) En363 (v := .bool (!(ByteArray.toList (bstr x77) == ByteArray.toList (bstr x80)))) 18 (by kernel_rfl) (by kernel_rfl) rfl ?_
                      intro ac364 En365
                      rw [Go.Dbr.bstr_eq x77 x80] at En365
                      refine any_pureR (d := some 30) En365 (v := .bool (!(x77 == x80))) 19 (by kernel_rfl) (by kernel_rfl) rfl ?_
                      intro ac366 En367
                      exact any_end (by kernel_rfl) ⟨En367.sub (by kernel_rfl), wo81.pick [0] (by kernel_rfl) (by decide)⟩
                    · rintro _ rfl
                      refine op_str (d := some 28) (src := 22) (dst := 9) (e := 5) (ao := a_x80) (cap := c_x80) (p := List.length x80) (bs := x80) En359 (by kernel_rfl) rfl (by kernel_rfl) (by kernel_rfl) (by kernel_rfl) (i_x80.ev wo81).reads i_x80.nz ?_
                      intro ac368 En369
                      refine any_at 11 (by kernel_rfl) rfl ?_
                      refine op_str (d := some 22) (src := 22) (dst := 9) (e := 5) (ao := a_x77) (cap := c_x77) (p := List.length x77) (bs := x77) En369 (by kernel_rfl) rfl (by kernel_rfl) (by kernel_rfl) (by kernel_rfl) (i_x77.ev wo81).reads i_x77.nz ?_
                      intro ac370 En371
                      refine any_pureR (d := some 29) En371 (v := .bool (!(ByteArray.toList (bstr x77) == ByteArray.toList (bstr x80)))) 18 (by kernel_rfl) (by kernel_rfl) rfl ?_
                      intro ac372 En373
                      rw [Go.Dbr.bstr_eq x77 x80] at En373
                      refine any_pureR (d := some 30) En373 (v := .bool (!(x77 == x80))) 19 (by kernel_rfl) (by kernel_rfl) rfl ?_
                      intro ac374 En375
                      exact any_end (by kernel_rfl) ⟨En375.sub (by kernel_rfl), wo81.pick [0] (by kernel_rfl) (by decide)⟩
                · rintro _ rfl
                  refine op_loadf (d := some 27) (t := 22) (ad := adr342) (ao := ag) (ys := List.flatMap (fun s : Sl UInt8 => s.f) lg) (o := k) (v := .slice a_x80 (List.length x80) c_x80) En345 (by kernel_rfl) rfl (ig.ro.ev wo81).reads had343 ((flat_get1 (fun _ _ => rfl) hx79).trans rfl) (by kernel_rfl) ?_
                  intro ac376 En377
                  refine any_two 10 17 (by kernel_rfl) ?_ ?_
                  · rintro _ rfl
                    refine op_loadf (d := some 21) (t := 22) (ad := adr290) (ao := ao) (ys := List.flatMap (fun s : Sl UInt8 => s.f) lo) (o := k) (v := .slice a_x77 (List.length x77) c_x77) En377 (by kernel_rfl) rfl (io.ro.ev wo81).reads had291 ((flat_get1 (fun _ _ => rfl) hx76).trans rfl) (by kernel_rfl) ?_
                    intro ac378 En379
                    refine any_two 11 17 (by kernel_rfl) ?_ ?_
                    · rintro _ rfl
                      refine op_str (d := some 22) (src := 22) (dst := 9) (e := 5) (ao := a_x77) (cap := c_x77) (p := List.length x77) (bs := x77) En379 (by kernel_rfl) rfl (by kernel_rfl) (by kernel_rfl) (by kernel_rfl) (i_x77.ev wo81).reads i_x77.nz ?_
                      intro ac380 En381
                      refine any_at 17 (by kernel_rfl) rfl ?_
                      refine op_str (d := some 28) (src := 22) (dst := 9) (e := 5) (ao := a_x80) (cap := c_x80) (p := List.length x80) (bs := x80) En381 (by kernel_rfl) rfl (by kernel_rfl) (by kernel_rfl) (by kernel_rfl) (i_x80.ev wo81).reads i_x80.nz ?_
                      intro ac382 En383
                      refine any_pureR (d := some 29) En383 (v := .bool (!(ByteArray.toList (bstr x77) == ByteArray.toList (bstr x80)))) 18 (by kernel_rfl) (by kernel_rfl) rfl ?_
                      intro ac384 En385
                      rw [Go.Dbr.bstr_eq x77 x80] at En385
                      refine any_pureR (d := some 30) En385 (v := .bool (!(x77 == x80))) 19 (by kernel_rfl) (by kernel_rfl) rfl ?_
                      intro ac386 En387
                      exact any_end (by kernel_rfl) ⟨En387.sub (by kernel_rfl), wo81.pick [0] (by kernel_rfl) (by decide)⟩
                    · rintro _ rfl
                      refine op_str (d := some 28) (src := 22) (dst := 9) (e := 5) (ao := a_x80) (cap := c_x80) (p := List.length x80) (bs := x80) En379 (by kernel_rfl) rfl (by kernel_rfl) (by kernel_rfl) (by kernel_rfl) (i_x80.ev wo81).reads i_x80.nz ?_
                      intro ac388 En389
                      refine any_at 11 (by kernel_rfl) rfl ?_
                      refine op_str (d := some 22) (src := 22) (dst := 9) (e := 5) (ao := a_x77) (cap := c_x77) (p := List.length x77) (bs := x77) En389 (by kernel_rfl) rfl (by kernel_rfl) (by kernel_rfl) (by kernel_rfl) (i_x77.ev wo81).reads i_x77.nz ?_
                      intro ac390 En391
                      refine any_pureR (d := some 29) En391 (v := .bool (!(ByteArray.toList (bstr x77) == ByteArray.toList (bstr x80)))) 18 (by kernel_rfl) (by kernel_rfl) rfl ?_
                      intro ac392 En393
                      rw [Go.Dbr.bstr_eq x77 x80] at En393
                      refine any_pureR (d := some 30) En393 (v := .bool (!(x77 == x80))) 19 (by kernel_rfl) (by kernel_rfl) rfl ?_
                      intro ac394 En395
                      exact any_end (by kernel_rfl) ⟨En395.sub (by kernel_rfl), wo81.pick [0] (by kernel_rfl) (by decide)⟩
                  · rintro _ rfl
                    refine op_str (d := some 28) (src := 22) (dst := 9) (e := 5) (ao := a_x80) (cap := c_x80) (p := List.length x80) (bs := x80) En377 (by kernel_rfl) rfl (by kernel_rfl) (by kernel_rfl) (by kernel_rfl) (i_x80.ev wo81).reads i_x80.nz ?_
                    intro ac396 En397
                    refine any_at 10 (by kernel_rfl) rfl ?_
                    refine op_loadf (d := some 21) (t := 22) (ad := adr290) (ao := ao) (ys := List.flatMap (fun s : Sl UInt8 => s.f) lo) (o := k) (v := .slice a_x77 (List.length x77) c_x77) En397 (by kernel_rfl) rfl (io.ro.ev wo81).reads had291 ((flat_get1 (fun _ _ => rfl) hx76).trans rfl) (by kernel_rfl) ?_
                    intro ac398 En399
                    refine any_at 11 (by kernel_rfl) rfl ?_
                    refine op_str (d := some 22) (src := 22) (dst := 9) (e := 5) (ao := a_x77) (cap := c_x77) (p := List.length x77) (bs := x77) En399 (by kernel_rfl) rfl (by kernel_rfl) (by kernel_rfl) (by kernel_rfl) (i_x77.ev wo81).reads i_x77.nz ?_
                    intro ac400 En401
                    refine any_pureR (d := some 29) En401 (v := .bool (!(ByteArray.toList (bstr x77) == ByteArray.toList (bstr x80)))) 18 (by kernel_rfl) (by kernel_rfl) rfl ?_
                    intro ac402 En403
                    rw [Go.Dbr.bstr_eq x77 x80] at En403
                    refine any_pureR (d := some 30) En403 (v := .bool (!(x77 == x80))) 19 (by kernel_rfl) (by kernel_rfl) rfl ?_
                    intro ac404 En405
                    exact any_end (by kernel_rfl) ⟨En405.sub (by kernel_rfl), wo81.pick [0] (by kernel_rfl) (by decide)⟩
            · rintro _ rfl
              refine op_index (d := some 26) (t := 32) (e := 22) (sz := 1) (len := List.length lg) (cap := cg) (j := k) (ao := ag) (k := .i64) (ix := ((k : Nat) : Int)) En289 (by kernel_rfl) ig.nz (by kernel_rfl) (by kernel_rfl) (by omega) (by omega) (jo := k) (Nat.mul_one _) ?_
              intro ac408 adr406 had407 En409
              refine any_two 9 16 (by kernel_rfl) ?_ ?_
              · rintro _ rfl
                refine op_index (d := some 20) (t := 32) (e := 22) (sz := 1) (len := List.length lo) (cap := co) (j := k) (ao := ao) (k := .i64) (ix := ((k : Nat) : Int)) En409 (by kernel_rfl) io.nz (by kernel_rfl) (by kernel_rfl) (by omega) (by omega) (jo := k) (Nat.mul_one _) ?_
                intro ac412 adr410 had411 En413
                refine any_two 10 16 (by kernel_rfl) ?_ ?_
                · rintro _ rfl
                  refine op_loadf (d := some 21) (t := 22) (ad := adr410) (ao := ao) (ys := List.flatMap (fun s : Sl UInt8 => s.f) lo) (o := k) (v := .slice a_x77 (List.length x77) c_x77) En413 (by kernel_rfl) rfl (io.ro.ev wo81).reads had411 ((flat_get1 (fun _ _ => rfl) hx76).trans rfl) (by kernel_rfl) ?_
                  intro ac414 En415
                  refine any_two 11 16 (by kernel_rfl) ?_ ?_
                  · rintro _ rfl
                    refine op_str (d := some 22) (src := 22) (dst := 9) (e := 5) (ao := a_x77) (cap := c_x77) (p := List.length x77) (bs := x77) En415 (by kernel_rfl) rfl (by kernel_rfl) (by kernel_rfl) (by kernel_rfl) (i_x77.ev wo81).reads i_x77.nz ?_
                    intro ac416 En417
                    refine any_at 16 (by kernel_rfl) rfl ?_
                    refine op_loadf (d := some 27) (t := 22) (ad := adr406) (ao := ag) (ys := List.flatMap (fun s : Sl UInt8 => s.f) lg) (o := k) (v := .slice a_x80 (List.length x80) c_x80) En417 (by kernel_rfl) rfl (ig.ro.ev wo81).reads had407 ((flat_get1 (fun _ _ => rfl) hx79).trans rfl) (by kernel_rfl) ?_
                    intro ac418 En419
                    refine any_at 17 (by kernel_rfl) rfl ?_
                    refine op_str (d := some 28) (src := 22) (dst := 9) (e := 5) (ao := a_x80) (cap := c_x80) (p := List.length x80) (bs := x80) En419 (by kernel_rfl) rfl (by kernel_rfl) (by kernel_rfl) (by kernel_rfl) (i_x80.ev wo81).reads i_x80.nz ?_
                    intro ac420 En421
                    refine any_pureR (d := some 29) En421 (v := .bool (!(ByteArray.toList (bstr x77) == ByteArray.toList (bstr x80)))) 18 (by kernel_rfl) (by kernel_rfl) rfl ?_
                    intro ac422 En423
                    rw [Go.Dbr.bstr_eq x77 x80] at En423
                    refine any_pureR (d := some 30) En423 (v := .bool (!(x77 == x80))) 19 (by kernel_rfl) (by kernel_rfl) rfl ?_
                    intro ac424 En425
                    exact any_end (by kernel_rfl) ⟨En425.sub (by kernel_rfl), wo81.pick [0] (by kernel_rfl) (by decide)⟩
                  · rintro _ rfl
                    refine op_loadf (d := some 27) (t := 22) (ad := adr406) (ao := ag) (ys := List.flatMap (fun s : Sl UInt8 => s.f) lg) (o := k) (v := .slice a_x80 (List.length x80) c_x80) En415 (by kernel_rfl) rfl (ig.ro.ev wo81).reads had407 ((flat_get1 (fun _ _ => rfl) hx79).trans rfl) (by kernel_rfl) ?_
                    intro ac426 En427
                    refine any_two 11 17 (by kernel_rfl) ?_ ?_
                    · rintro _ rfl
                      refine op_str (d := some 22) (src := 22) (dst := 9) (e := 5) (ao := a_x77) (cap := c_x77) (p := List.length x77) (bs := x77) En427 (by kernel_rfl) rfl (by kernel_rfl) (by kernel_rfl) (by kernel_rfl) (i_x77.ev wo81).reads i_x77.nz ?_
                      intro ac428 En429
                      refine any_at 17 (by kernel_rfl) rfl ?_
                      refine op_str (d := some 28) (src := 22) (dst := 9) (e := 5) (ao := a_x80) (cap := c_x80) (p := List.length x80) (bs := x80) En429 (by kernel_rfl) rfl (by kernel_rfl) (by kernel_rfl) (by kernel_rfl) (i_x80.ev wo81).reads i_x80.nz ?_
                      intro ac430 En431
                      refine any_pureR (d := some 29) En431 (v := .bool (!(ByteArray.toList (bstr x77) == ByteArray.toList (bstr x80)))) 18 (by kernel_rfl) (by kernel_rfl) rfl ?_
                      intro ac432 En433
                      rw [Go.Dbr.bstr_eq x77 x80] at En433
                      refine any_pureR (d := some 30) En433 (v := .bool (!(x77 == x80))) 19 (by kernel_rfl) (by kernel_rfl) rfl ?_
                      intro ac434 En435
                      exact any_end (by kernel_rfl) ⟨En435.sub (by kernel_rfl), wo81.pick [0] (by kernel_rfl) (by decide)⟩
                    · rintro _ rfl
                      refine op_str (d := some 28) (src := 22) (dst := 9) (e := 5) (ao := a_x80) (cap := c_x80) (p := List.length x80) (bs := x80) En427 (by kernel_rfl) rfl (by kernel_rfl) (by kernel_rfl) (by kernel_rfl) (i_x80.ev wo81).reads i_x80.nz ?_
                      intro ac436 En437
                      refine any_at 11 (by kernel_rfl) rfl ?_
                      refine op_str (d := some 22) (src := 22) (dst := 9) (e := 5) (ao := a_x77) (cap := c_x77) (p := List.length x77) (bs := x77) En437 (by kernel_rfl) rfl (by kernel_rfl) (by kernel_rfl) (by kernel_rfl) (i_x77.ev wo81).reads i_x77.nz ?_
                      intro ac438 En439
                      refine any_pureR (d := some 29) En439 (v := .bool (!(ByteArray.toList (bstr x77) == ByteArray.toList (bstr x80)))) 18 (by kernel_rfl) (by kernel_rfl) rfl ?_
                      intro ac440 En441
                      rw [Go.Dbr.bstr_eq x77 x80] at En441
                      refine any_pureR (d := some 30) En441 (v := .bool (!(x77 == x80))) 19 (by kernel_rfl) (by kernel_rfl) rfl ?_
                      intro ac442 En443
                      exact any_end (by kernel_rfl) ⟨En443.sub (by kernel_rfl), wo81.pick [0] (by kernel_rfl) (by decide)⟩
                · rintro _ rfl
                  refine op_loadf (d := some 27) (t := 22) (ad := adr406) (ao := ag) (ys := List.flatMap (fun s : Sl UInt8 => s.f) lg) (o := k) (v := .slice a_x80 (List.length x80) c_x80) En413 (by kernel_rfl) rfl (ig.ro.ev wo81).reads had407 ((flat_get1 (fun _ _ => rfl) hx79).trans rfl) (by kernel_rfl) ?_
                  intro ac444 En445
                  refine any_two 10 17 (by kernel_rfl) ?_ ?_
                  · rintro _ rfl
                    refine op_loadf (d := some 21) (t := 22) (ad := adr410) (ao := ao) (ys := List.flatMap (fun s : Sl UInt8 => s.f) lo) (o := k) (v := .slice a_x77 (List.length x77) c_x77) En445 (by kernel_rfl) rfl (io.ro.ev wo81).reads had411 ((flat_get1 (fun _ _ => rfl) hx76).trans rfl) (by kernel_rfl) ?_
                    intro ac446 En447
                    refine any_two 11 17 (by kernel_rfl) ?_ ?_
                    · rintro _ rfl
                      refine op_str (d := some 22) (src := 22) (dst := 9) (e := 5) (ao := a_x77) (cap := c_x77) (p := List.length x77) (bs := x77) En447 (by kernel_rfl) rfl (by kernel_rfl) (by kernel_rfl) (by kernel_rfl) (i_x77.ev wo81).reads i_x77.nz ?_
                      intro ac448 En449
                      refine any_at 17 (by kernel_rfl) rfl ?_
                      refine op_str (d := some 28) (src := 22) (dst := 9) (e := 5) (ao := a_x80) (cap := c_x80) (p := List.length x80) (bs := x80) En449 (by kernel_rfl) rfl (by kernel_rfl) (by kernel_rfl) (by kernel_rfl) (i_x80.ev wo81).reads i_x80.nz ?_
                      intro ac450 En451
                      refine any_pureR (d := some 29) En451 (v := .bool (!(ByteArray.toList (bstr x77) == ByteArray.toList (bstr x80)))) 18 (by kernel_rfl) (by kernel_rfl) rfl ?_
                      intro ac452 En453
                      rw [Go.Dbr.bstr_eq x77 x80] at En453
                      refine any_pureR (d := some 30) En453 (v := .bool (!(x77 == x80))) 19 (by kernel_rfl) (by kernel_rfl) rfl ?_
                      intro ac454 En455
                      exact any_end (by kernel_rfl) ⟨En455.sub (by kernel_rfl), wo81.pick [0] (by kernel_rfl) (by decide)⟩
                    · rintro _ rfl
                      refine op_str (d := some 28) (src := 22) (dst := 9) (e := 5) (ao := a_x80) (cap := c_x80) (p := List.length x80) (bs := x80) En447 (by kernel_rfl) rfl (by kernel_rfl) (by kernel_rfl) (by kernel_rfl) (i_x80.ev wo81).reads i_x80.nz ?_
                      intro ac456 En457
                      refine any_at 11 (by kernel_rfl) rfl ?_
                      refine op_str (d := some 22) (src := 22) (dst := 9) (e := 5) (ao := a_x77) (cap := c_x77) (p := List.length x77) (bs := x77) En457 (by kernel_rfl) rfl (by kernel_rfl) (by kernel_rfl) (by kernel_rfl) (i_x77.ev wo81).reads i_x77.nz ?_
                      intro ac458 En459
                      refine any_pureR (d := some 29) En459 (v := .bool (!(ByteArray.toList (bstr x77) == ByteArray.toList (bstr x80)))) 18 (by kernel_rfl) (by kernel_rfl) rfl ?_
                      intro ac460 En461
                      rw [Go.Dbr.bstr_eq x77 x80] at En461
                      refine any_pureR (d := some 30) En461 (v := .bool (!(x77 == x80))) 19 (by kernel_rfl) (by kernel_rfl) rfl ?_
                      intro ac462 En463
                      exact any_end (by kernel_rfl) ⟨En463.sub (by kernel_rfl), wo81.pick [0] (by kernel_rfl) (by decide)⟩
                  · rintro _ rfl
                    refine op_str (d := some 28) (src := 22) (dst := 9) (e := 5) (ao := a_x80) (cap := c_x80) (p := List.length x80) (bs := x80) En445 (by kernel_rfl) rfl (by kernel_rfl) (by kernel_rfl) (by kernel_rfl) (i_x80.ev wo81).reads i_x80.nz ?_
                    intro ac464 En465
                    refine any_at 10 (by kernel_rfl) rfl ?_
                    refine op_loadf (d := some 21) (t := 22) (ad := adr410) (ao := ao) (ys := List.flatMap (fun s : Sl UInt8 => s.f) lo) (o := k) (v := .slice a_x77 (List.length x77) c_x77) En465 (by kernel_rfl) rfl (io.ro.ev wo81).reads had411 ((flat_get1 (fun _ _ => rfl) hx76).trans rfl) (by kernel_rfl) ?_
                    intro ac466 En467
                    refine any_at 11 (by kernel_rfl) rfl ?_
                    refine op_str (d := some 22) (src := 22) (dst := 9) (e := 5) (ao := a_x77) (cap := c_x77) (p := List.length x77) (bs := x77) En467 (by kernel_rfl) rfl (by kernel_rfl) (by kernel_rfl) (by kernel_rfl) (i_x77.ev wo81).reads i_x77.nz ?_
                    intro ac468 En469
                    refine any_pureR (d := some 29) En469 (v := .bool (!(ByteArray.toList (bstr x77) == ByteArray.toList (bstr x80)))) 18 (by kernel_rfl) (by kernel_rfl) rfl ?_
                    intro ac470 En471
                    rw [Go.Dbr.bstr_eq x77 x80] at En471
                    refine any_pureR (d := some 30) En471 (v := .bool (!(x77 == x80))) 19 (by kernel_rfl) (by kernel_rfl) rfl ?_
                    intro ac472 En473
                    exact any_end (by kernel_rfl) ⟨En473.sub (by kernel_rfl), wo81.pick [0] (by kernel_rfl) (by decide)⟩
              · rintro _ rfl
                refine op_loadf (d := some 27) (t := 22) (ad := adr406) (ao := ag) (ys := List.flatMap (fun s : Sl UInt8 => s.f) lg) (o := k) (v := .slice a_x80 (List.length x80) c_x80) En409 (by kernel_rfl) rfl (ig.ro.ev wo81).reads had407 ((flat_get1 (fun _ _ => rfl) hx79).trans rfl) (by kernel_rfl) ?_
                intro ac474 En475
                refine any_two 9 17 (by kernel_rfl) ?_ ?_
                · rintro _ rfl
                  refine op_index (d := some 20) (t := 32) (e := 22) (sz := 1) (len := List.length lo) (cap := co) (j := k) (ao := ao) (k := .i64) (ix := ((k : Nat) : Int)) En475 (by kernel_rfl) io.nz (by kernel_rfl) (by kernel_rfl) (by omega) (by omega) (jo := k) (Nat.mul_one _) ?_
                  intro ac478 adr476 had477 En479
                  refine any_two 10 17 (by kernel_rfl) ?_ ?_
                  · rintro _ rfl
                    refine op_loadf (d := some 21) (t := 22) (ad := adr476) (ao := ao) (ys := List.flatMap (fun s : Sl UInt8 => s.f) lo) (o := k) (v := .slice a_x77 (List.length x77) c_x77) En479 (by kernel_rfl) rfl (io.ro.ev wo81).reads had477 ((flat_get1 (fun _ _ => rfl) hx76).trans rfl) (by kernel_rfl) ?_
                    intro ac480 En481
                    refine any_two 11 17 (by kernel_rfl) ?_ ?_
                    · rintro _ rfl
                      refine op_str (d := some 22) (src := 22) (dst := 9) (e := 5) (ao := a_x77) (cap := c_x77) (p := List.length x77) (bs := x77) En481 (by kernel_rfl) rfl (by kernel_rfl) (by kernel_rfl) (by kernel_rfl) (i_x77.ev wo81).reads i_x77.nz ?_
                      intro ac482 En483
                      refine any_at 17 (by kernel_rfl) rfl ?_
                      refine op_str (d := some 28) (src := 22) (dst := 9) (e := 5) (ao := a_x80) (cap := c_x80) (p := List.length x80) (bs := x80) En483 (by kernel_rfl) rfl (by kernel_rfl) (by kernel_rfl) (by kernel_rfl) (i_x80.ev wo81).reads i_x80.nz ?_
                      intro ac484 En485
                      refine any_pureR (d := some 29) En485 (v := .bool (!(ByteArray.toList (bstr x77) == ByteArray.toList (bstr x80)))) 18 (by kernel_rfl) (by kernel_rfl) rfl ?_
                      intro ac486 En487
                      rw [Go.Dbr.bstr_eq x77 x80] at En487
                      refine any_pureR (d := some 30) En487 (v := .bool (!(x77 == x80))) 19 (by kernel_rfl) (by kernel_rfl) rfl ?_
                      intro ac488 En489
                      exact any_end (by kernel_rfl) ⟨En489.sub (by kernel_rfl), wo81.pick [0] (by kernel_rfl) (by decide)⟩
                    · rintro _ rfl
                      refine op_str (d := some 28) (src := 22) (dst := 9) (e := 5) (ao := a_x80) (cap := c_x80) (p := List.length x80) (bs := x80) En481 (by kernel_rfl) rfl (by kernel_rfl) (by kernel_rfl) (by kernel_rfl) (i_x80.ev wo81).reads i_x80.nz ?_
                      intro ac490 En491
                      refine any_at 11 (by kernel_rfl) rfl ?_
                      refine op_str (d := some 22) (src := 22) (dst := 9) (e := 5) (ao := a_x77) (cap := c_x77) (p := List.length x77) (bs := x77) En491 (by kernel_rfl) rfl (by kernel_rfl) (by kernel_rfl) (by kernel_rfl) (i_x77.ev wo81).reads i_x77.nz ?_
                      intro ac492 En493
                      refine any_pureR (d := some 29) En493 (v := .bool (!(ByteArray.toList (bstr x77) == ByteArray.toList (bstr x80)))) 18 (by kernel_rfl) (by kernel_rfl) rfl ?_
                      intro ac494 En495
                      rw [Go.Dbr.bstr_eq x77 x80] at En495
                      refine any_pureR (d := some 30) En495 (v := .bool (!(x77 == x80))) 19 (by kernel_rfl) (by kernel_rfl) rfl ?_
                      intro ac496 En497
                      exact any_end (by kernel_rfl) ⟨En497.sub (by kernel_rfl), wo81.pick [0] (by kernel_rfl) (by decide)⟩
                  · rintro _ rfl
                    refine op_str (d := some 28) (src := 22) (dst := 9) (e := 5) (ao := a_x80) (cap := c_x80) (p := List.length x80) (bs := x80) En479 (by kernel_rfl) rfl (by kernel_rfl) (by kernel_rfl) (by kernel_rfl) (i_x80.ev wo81).reads i_x80.nz ?_
                    intro ac498 En499
                    refine any_at 10 (by kernel_rfl) rfl ?_
                    refine op_loadf (d := some 21) (t := 22) (ad := adr476) (ao := ao) (ys := List.flatMap (fun s : Sl UInt8 => s.f) lo) (o := k) (v := .slice a_x77 (List.length x77) c_x77) En499 (by kernel_rfl) rfl (io.ro.ev wo81).reads had477 ((flat_get1 (fun _ _ => rfl) hx76).trans rfl) (by kernel_rfl) ?_
                    intro ac500 En501
                    refine any_at 11 (by kernel_rfl) rfl ?_
                    refine op_str (d := some 22) (src := 22) (dst := 9) (e := 5) (ao := a_x77) (cap := c_x77) (p := List.length x77) (bs := x77) En501 (by kernel_rfl) rfl (by kernel_rfl) (by kernel_rfl) (by kernel_rfl) (i_x77.ev wo81).reads i_x77.nz ?_
                    intro ac502 En503
                    refine any_pureR (d := some 29) En503 (v := .bool (!(ByteArray.toList (bstr x77) == ByteArray.toList (bstr x80)))) 18 (by kernel_rfl) (by kernel_rfl) rfl ?_
                    intro ac504 En505
                    rw [Go.Dbr.bstr_eq x77 x80] at En505
                    refine any_pureR (d := some 30) En505 (v := .bool (!(x77 == x80))) 19 (by kernel_rfl) (by kernel_rfl) rfl ?_
                    intro ac506 En507
                    exact any_end (by kernel_rfl) ⟨En507.sub (by kernel_rfl), wo81.pick [0] (by kernel_rfl) (by decide)⟩
                · rintro _ rfl
                  refine op_str (d := some 28) (src := 22) (dst := 9) (e := 5) (ao := a_x80) (cap := c_x80) (p := List.length x80) (bs := x80) En475 (by kernel_rfl) rfl (by kernel_rfl) (by kernel_rfl) (by kernel_rfl) (i_x80.ev wo81).reads i_x80.nz ?_
                  intro ac508 En509
                  refine any_at 9 (by kernel_rfl) rfl ?_
                  refine op_index (d := some 20) (t := 32) (e := 22) (sz := 1) (len := List.length lo) (cap := co) (j := k) (ao := ao) (k := .i64) (ix := ((k : Nat) : Int)) En509 (by kernel_rfl) io.nz (by kernel_rfl) (by kernel_rfl) (by omega) (by omega) (jo := k) (Nat.mul_one _) ?_
                  intro ac512 adr510 had511 En513
                  refine any_at 10 (by kernel_rfl) rfl ?_
                  refine op_loadf (d := some 21) (t := 22) (ad := adr510) (ao := ao) (ys := List.flatMap (fun s : Sl UInt8 => s.f) lo) (o := k) (v := .slice a_x77 (List.length x77) c_x77) En513 (by kernel_rfl) rfl (io.ro.ev wo81).reads had511 ((flat_get1 (fun _ _ => rfl) hx76).trans rfl) (by kernel_rfl) ?_
                  intro ac514 En515
                  refine any_at 11 (by kernel_rfl) rfl ?_
                  refine op_str (d := some 22) (src := 22) (dst := 9) (e := 5) (ao := a_x77) (cap := c_x77) (p := List.length x77) (bs := x77) En515 (by kernel_rfl) rfl (by kernel_rfl) (by kernel_rfl) (by kernel_rfl) (i_x77.ev wo81).reads i_x77.nz ?_
                  intro ac516 En517
                  refine any_pureR (d := some 29) En517 (v := .bool (!(ByteArray.toList (bstr x77) == ByteArray.toList (bstr x80)))) 18 (by kernel_rfl) (by kernel_rfl) rfl ?_
                  intro ac518 En519
                  rw [Go.Dbr.bstr_eq x77 x80] at En519
                  refine any_pureR (d := some 30) En519 (v := .bool (!(x77 == x80))) 19 (by kernel_rfl) (by kernel_rfl) rfl ?_
                  intro ac520 En521
                  exact any_end (by kernel_rfl) ⟨En521.sub (by kernel_rfl), wo81.pick [0] (by kernel_rfl) (by decide)⟩
        · rintro _ rfl
          refine op_loadbox (d := some 24) (t := 32) (b := bk1) (off := 0) (k := 0) (v := .slice ag (List.length lg) cg) En101 (by kernel_rfl) wo81 rfl rfl (by kernel_rfl) ?_
          intro ac522 En523
          refine any_two 7 15 (by kernel_rfl) ?_ ?_
          · rintro _ rfl
            refine op_loadbox (d := some 18) (t := 32) (b := bk1) (off := 1) (k := 0) (v := .slice ao (List.length lo) co) En523 (by kernel_rfl) wo81 rfl rfl (by kernel_rfl) ?_
            intro ac524 En525
            refine any_two 9 15 (by kernel_rfl) ?_ ?_
            · rintro _ rfl
              refine op_index (d := some 20) (t := 32) (e := 22) (sz := 1) (len := List.length lo) (cap := co) (j := k) (ao := ao) (k := .i64) (ix := ((k : Nat) : Int)) En525 (by kernel_rfl) io.nz (by kernel_rfl) (by kernel_rfl) (by omega) (by omega) (jo := k) (Nat.mul_one _) ?_
              intro ac528 adr526 had527 En529
              refine any_two 10 15 (by kernel_rfl) ?_ ?_
              · rintro _ rfl
                refine op_loadf (d := some 21) (t := 22) (ad := adr526) (ao := ao) (ys := List.flatMap (fun s : Sl UInt8 => s.f) lo) (o := k) (v := .slice a_x77 (List.length x77) c_x77) En529 (by kernel_rfl) rfl (io.ro.ev wo81).reads had527 ((flat_get1 (fun _ _ => rfl) hx76).trans rfl) (by kernel_rfl) ?_
                intro ac530 En531
                refine any_two 11 15 (by kernel_rfl) ?_ ?_
                · rintro _ rfl
                  refine op_str (d := some 22) (src := 22) (dst := 9) (e := 5) (ao := a_x77) (cap := c_x77) (p := List.length x77) (bs := x77) En531 (by kernel_rfl) rfl (by kernel_rfl) (by kernel_rfl) (by kernel_rfl) (i_x77.ev wo81).reads i_x77.nz ?_
                  intro ac532 En533
                  refine any_at 15 (by kernel_rfl) rfl ?_
                  refine op_index (d := some 26) (t := 32) (e := 22) (sz := 1) (len := List.length lg) (cap := cg) (j := k) (ao := ag) (k := .i64) (ix := ((k : Nat) : Int)) En533 (by kernel_rfl) ig.nz (by kernel_rfl) (by kernel_rfl) (by omega) (by omega) (jo := k) (Nat.mul_one _) ?_
                  intro ac536 adr534 had535 En537
                  refine any_at 16 (by kernel_rfl) rfl ?_
                  refine op_loadf (d := some 27) (t := 22) (ad := adr534) (ao := ag) (ys := List.flatMap (fun s : Sl UInt8 => s.f) lg) (o := k) (v := .slice a_x80 (List.length x80) c_x80) En537 (by kernel_rfl) rfl (ig.ro.ev wo81).reads had535 ((flat_get1 (fun _ _ => rfl) hx79).trans rfl) (by kernel_rfl) ?_
                  intro ac538 En539
                  refine any_at 17 (by kernel_rfl) rfl ?_
                  refine op_str (d := some 28) (src := 22) (dst := 9) (e := 5) (ao := a_x80) (cap := c_x80) (p := List.length x80) (bs := x80) En539 (by kernel_rfl) rfl (by kernel_rfl) (by kernel_rfl) (by kernel_rfl) (i_x80.ev wo81).reads i_x80.nz ?_
                  intro ac540 En541
                  refine any_pureR (d := some 29) En541 (v := .bool (!(ByteArray.toList (bstr x77) == ByteArray.toList (bstr x80)))) 18 (by kernel_rfl) (by kernel_rfl) rfl ?_
                  intro ac542 En543
                  rw [Go.Dbr.bstr_eq x77 x80] at En543
                  refine any_pureR (d := some 30) En543 (v := .bool (!(x77 == x80))) 19 (by kernel_rfl) (by kernel_rfl) rfl ?_
                  intro ac544 En545
                  exact any_end (by kernel_rfl) ⟨En545.sub (by kernel_rfl), wo81.pick [0] (by kernel_rfl) (by decide)⟩
                · rintro _ rfl
                  refine op_index (d := some 26) (t := 32) (e := 22) (sz := 1) (len := List.length lg) (cap := cg) (j := k) (ao := ag) (k := .i64) (ix := ((k : Nat) : Int)) En531 (by kernel_rfl) ig.nz (by kernel_rfl) (by kernel_rfl) (by omega) (by omega) (jo := k) (Nat.mul_one _) ?_
                  intro ac548 adr546 had547 En549
                  refine any_two 11 16 (by kernel_rfl) ?_ ?_
                  · rintro _ rfl
                    refine op_str (d := some 22) (src := 22) (dst := 9) (e := 5) (ao := a_x77) (cap := c_x77) (p := List.length x77) (bs := x77) En549 (by kernel_rfl) rfl (by kernel_rfl) (by kernel_rfl) (by kernel_rfl) (i_x77.ev wo81).reads i_x77.nz ?_
                    intro ac550 En551
                    refine any_at 16 (by kernel_rfl) rfl ?_
                    refine op_loadf (d := some 27) (t := 22) (ad := adr546) (ao := ag) (ys := List.flatMap (fun s : Sl UInt8 => s.f) lg) (o := k) (v := .slice a_x80 (List.length x80) c_x80) En551 (by kernel_rfl) rfl (ig.ro.ev wo81).reads had547 ((flat_get1 (fun _ _ => rfl) hx79).trans rfl) (by kernel_rfl) ?_
                    intro ac552 En553
                    refine any_at 17 (by kernel_rfl) rfl ?_
                    refine op_str (d := some 28) (src := 22) (dst := 9) (e := 5) (ao := a_x80) (cap := c_x80) (p := List.length x80) (bs := x80) En553 (by kernel_rfl) rfl (by kernel_rfl) (by kernel_rfl) (by kernel_rfl) (i_x80.ev wo81).reads i_x80.nz ?_
                    intro ac554 En555
                    refine any_pureR (d := some 29) En555 (v := .bool (!(ByteArray.toList (bstr x77) == ByteArray.toList (bstr x80)))) 18 (by kernel_rfl) (by kernel_rfl) rfl ?_
                    intro ac556 En557
                    rw [Go.Dbr.bstr_eq x77 x80] at En557
                    refine any_pureR (d := some 30) En557 (v := .bool (!(x77 == x80))) 19 (by kernel_rfl) (by kernel_rfl) rfl ?_
                    intro ac558 En559
                    exact any_end (by kernel_rfl) ⟨En559.sub (by kernel_rfl), wo81.pick [0] (by kernel_rfl) (by decide)⟩
                  · rintro _ rfl
                    refine op_loadf (d := some 27) (t := 22) (ad := adr546) (ao := ag) (ys := List.flatMap (fun s : Sl UInt8 => s.f) lg) (o := k) (v := .slice a_x80 (List.length x80) c_x80) En549 (by kernel_rfl) rfl (ig.ro.ev wo81).reads had547 ((flat_get1 (fun _ _ => rfl) hx79).trans rfl) (by kernel_rfl) ?_
                    intro ac560 En561
                    refine any_two 11 17 (by kernel_rfl) ?_ ?_
                    · rintro _ rfl
                      refine op_str (d := some 22) (src := 22) (dst := 9) (e := 5) (ao := a_x77) (cap := c_x77) (p := List.length x77) (bs := x77) En561 (by kernel_rfl) rfl (by kernel_rfl) (by kernel_rfl) (by kernel_rfl) (i_x77.ev wo81).reads i_x77.nz ?_
                      intro ac562 En563
                      refine any_at 17 (by kernel_rfl) rfl ?_
                      refine op_str (d := some 28) (src := 22) (dst := 9) (e := 5) (ao := a_x80) (cap := c_x80) (p := List.length x80) (bs := x80) En563 (by kernel_rfl) rfl (by kernel_rfl) (by kernel_rfl) (by kernel_rfl) (i_x80.ev wo81).reads i_x80.nz ?_
                      intro ac564 En565
                      refine any_pureR (d := some 29) En565 (v := .bool (!(ByteArray.toList (bstr x77) == ByteArray.toList (bstr x80)))) 18 (by kernel_rfl) (by kernel_rfl) rfl ?_
                      intro ac566 En567
                      rw [Go.Dbr.bstr_eq x77 x80] at En567
                      refine any_pureR (d := some 30) En567 (v := .bool (!(x77 == x80))) 19 (by kernel_rfl) (by kernel_rfl) rfl ?_
                      intro ac568 En569
                      exact any_end (by kernel_rfl) ⟨En569.sub (by kernel_rfl), wo81.pick [0] (by kernel_rfl) (by decide)⟩
                    · rintro _ rfl
                      refine op_str (d := some 28) (src := 22) (dst := 9) (e := 5) (ao := a_x80) (cap := c_x80) (p := List.length x80) (bs := x80) En561 (by kernel_rfl) rfl (by kernel_rfl) (by kernel_rfl) (by kernel_rfl) (i_x80.ev wo81).reads i_x80.nz ?_
                      intro ac570 En571
                      refine any_at 11 (by kernel_rfl) rfl ?_
                      refine op_str (d := some 22) (src := 22) (dst := 9) (e := 5) (ao := a_x77) (cap := c_x77) (p := List.length x77) (bs := x77) En571 (by kernel_rfl) rfl (by kernel_rfl) (by kernel_rfl) (by kernel_rfl) (i_x77.ev wo81).reads i_x77.nz ?_
                      intro ac572 En573
                      refine any_pureR (d := some 29) En573 (v := .bool (!(ByteArray.toList (bstr x77) == ByteArray.toList (bstr x80)))) 18 (by kernel_rfl) (by kernel_rfl) rfl ?_
                      intro ac574 En575
                      rw [Go.Dbr.bstr_eq x77 x80] at En575
                      refine any_pureR (d := some 30) En575 (v := .bool (!(x77 == x80))) 19 (by kernel_rfl) (by kernel_rfl) rfl ?_
                      intro ac576 En577
                      exact any_end (by kernel_rfl) ⟨En577.sub (by kernel_rfl), wo81.pick [0] (by kernel_rfl) (by decide)⟩
              · rintro _ rfl
                refine op_index (d := some 26) (t := 32) (e := 22) (sz := 1) (len := List.length lg) (cap := cg) (j := k) (ao := ag) (k := .i64) (ix := ((k : Nat) : Int)) En529 (by kernel_rfl) ig.nz (by kernel_rfl) (by kernel_rfl) (by omega) (by omega) (jo := k) (Nat.mul_one _) ?_
                intro ac580 adr578 had579 En581
                refine any_two 10 16 (by kernel_rfl) ?_ ?_
                · rintro _ rfl
                  refine op_loadf (d := some 21) (t := 22) (ad := adr526) (ao := ao) (ys := List.flatMap (fun s : Sl UInt8 => s.f) lo) (o := k) (v := .slice a_x77 (List.length x77) c_x77) En581 (by kernel_rfl) rfl (io.ro.ev wo81).reads had527 ((flat_get1 (fun _ _ => rfl) hx76).trans rfl) (by kernel_rfl) ?_
                  intro ac582 En583
                  refine any_two 11 16 (by kernel_rfl) ?_ ?_
                  · rintro _ rfl
                    refine op_str (d := some 22) (src := 22) (dst := 9) (e := 5) (ao := a_x77) (cap := c_x77) (p := List.length x77) (bs := x77) En583 (by kernel_rfl) rfl (by kernel_rfl) (by kernel_rfl) (by kernel_rfl) (i_x77.ev wo81).reads i_x77.nz ?_
                    intro ac584 En585
                    refine any_at 16 (by kernel_rfl) rfl ?_
                    refine op_loadf (d := some 27) (t := 22) (ad := adr578) (ao := ag) (ys := List.flatMap (fun s : Sl UInt8 => s.f) lg) (o := k) (v := .slice a_x80 (List.length x80) c_x80) En585 (by kernel_rfl) rfl (ig.ro.ev wo81).reads had579 ((flat_get1 (fun _ _ => rfl) hx79).trans rfl) (by kernel_rfl) ?_
                    intro ac586 En587
                    refine any_at 17 (by kernel_rfl) rfl ?_
                    refine op_str (d := some 28) (src := 22) (dst := 9) (e := 5) (ao := a_x80) (cap := c_x80) (p := List.length x80) (bs := x80) En587 (by kernel_rfl) rfl (by kernel_rfl) (by kernel_rfl) (by kernel_rfl) (i_x80.ev wo81).reads i_x80.nz ?_
                    intro ac588 En589
                    refine any_pureR (d := some 29) En589 (v := .bool (!(ByteArray.toList (bstr x77) == ByteArray.toList (bstr x80)))) 18 (by kernel_rfl) (by kernel_rfl) rfl ?_
                    intro ac590 En591
                    rw [Go.Dbr.bstr_eq x77 x80] at En591
                    refine any_pureR (d := some 30) En591 (v := .bool (!(x77 == x80))) 19 (by kernel_rfl) (by kernel_rfl) rfl ?_
                    intro ac592 En593
                    exact any_end (by kernel_rfl) ⟨En593.sub (by kernel_rfl), wo81.pick [0] (by kernel_rfl) (by decide)⟩
                  · rintro _ rfl
                    refine op_loadf (d := some 27) (t := 22) (ad := adr578) (ao := ag) (ys := List.flatMap (fun s : Sl UInt8 => s.f) lg) (o := k) (v := .slice a_x80 (List.length x80) c_x80) En583 (by kernel_rfl) rfl (ig.ro.ev wo81).reads had579 ((flat_get1 (fun _ _ => rfl) hx79).trans rfl) (by kernel_rfl) ?_
                    intro ac594 En595
                    refine any_two 11 17 (by kernel_rfl) ?_ ?_
                    · rintro _ rfl
                      refine op_str (d := some 22) (src := 22) (dst := 9) (e := 5) (ao := a_x77) (cap := c_x77) (p := List.length x77) (bs := x77) En595 (by kernel_rfl) rfl (by kernel_rfl) (by kernel_rfl) (by kernel_rfl) (i_x77.ev wo81).reads i_x77.nz ?_
                      intro ac596 En597
                      refine any_at 17 (by kernel_rfl) rfl ?_
                      refine op_str (d := some 28) (src := 22) (dst := 9) (e := 5) (ao := a_x80) (cap := c_x80) (p := List.length x80) (bs := x80) En597 (by kernel_rfl) rfl (by kernel_rfl) (by kernel_rfl) (by kernel_rfl) (i_x80.ev wo81).reads i_x80.nz ?_
                      intro ac598 En599
                      refine any_pureR (d := some 29) En599 (v := .bool (!(ByteArray.toList (bstr x77) == ByteArray.toList (bstr x80)))) 18 (by kernel_rfl) (by kernel_rfl) rfl ?_
                      intro ac600 En601
                      rw [Go.Dbr.bstr_eq x77 x80] at En601
                      refine any_pureR (d := some 30) En601 (v := .bool (!(x77 == x80))) 19 (by kernel_rfl) (by kernel_rfl) rfl ?_
                      intro ac602 En603
                      exact any_end (by kernel_rfl) ⟨En603.sub (by kernel_rfl), wo81.pick [0] (by kernel_rfl) (by decide)⟩
                    · rintro _ rfl
                      refine op_str (d := some 28) (src := 22) (dst := 9) (e := 5) (ao := a_x80) (cap := c_x80) (p := List.length x80) (bs := x80) En595 (by kernel_rfl) rfl (by kernel_rfl) (by kernel_rfl) (by kernel_rfl) (i_x80.ev wo81).reads i_x80.nz ?_
                      intro ac604 En605
                      refine any_at 11 (by kernel_rfl) rfl ?_
                      refine op_str (d := some 22) (src := 22) (dst := 9) (e := 5) (ao := a_x77) (cap := c_x77) (p := List.length x77) (bs := x77) En605 (by kernel_rfl) rfl (by kernel_rfl) (by kernel_rfl) (by kernel_rfl) (i_x77.ev wo81).reads i_x77.nz ?_
                      intro ac606 En607
                      refine any_pureR (d := some 29) En607 (v := .bool (!(ByteArray.toList (bstr x77) == ByteArray.toList (bstr x80)))) 18 (by kernel_rfl) (by kernel_rfl) rfl ?_
                      intro ac608 En609
                      rw [Go.Dbr.bstr_eq x77 x80] at En609
                      refine any_pureR (d := some 30) En609 (v := .bool (!(x77 == x80))) 19 (by kernel_rfl) (by kernel_rfl) rfl ?_
                      intro ac610 En611
                      exact any_end (by kernel_rfl) ⟨En611.sub (by kernel_rfl), wo81.pick [0] (by kernel_rfl) (by decide)⟩
                · rintro _ rfl
                  refine op_loadf (d := some 27) (t := 22) (ad := adr578) (ao := ag) (ys := List.flatMap (fun s : Sl UInt8 => s.f) lg) (o := k) (v := .slice a_x80 (List.length x80) c_x80) En581 (by kernel_rfl) rfl (ig.ro.ev wo81).reads had579 ((flat_get1 (fun _ _ => rfl) hx79).trans rfl) (by kernel_rfl) ?_
                  intro ac612 En613
                  refine any_two 10 17 (by kernel_rfl) ?_ ?_
                  · rintro _ rfl
                    refine op_loadf (d := some 21) (t := 22) (ad := adr526) (ao := ao) (ys := List.flatMap (fun s : Sl UInt8 => s.f) lo) (o := k) (v := .slice a_x77 (List.length x77) c_x77) En613 (by kernel_rfl) rfl (io.ro.ev wo81).reads had527 ((flat_get1 (fun _ _ => rfl) hx76).trans rfl) (by kernel_rfl) ?_
                    intro ac614 En615
                    refine any_two 11 17 (by kernel_rfl) ?_ ?_
                    · rintro _ rfl
                      refine op_str (d := some 22) (src := 22) (dst := 9) (e := 5) (ao := a_x77) (cap := c_x77) (p := List.length x77) (bs := x77) En615 (by kernel_rfl) rfl (by kernel_rfl) (by kernel_rfl) (by kernel_rfl) (i_x77.ev wo81).reads i_x77.nz ?_
                      intro ac616 En617
                      refine any_at 17 (by kernel_rfl) rfl ?_
                      refine op_str (d := some 28) (src := 22) (dst := 9) (e := 5) (ao := a_x80) (cap := c_x80) (p := List.length x80) (bs := x80) En617 (by kernel_rfl) rfl (by kernel_rfl) (by kernel_rfl) (by kernel_rfl) (i_x80.ev wo81).reads i_x80.nz ?_
                      intro ac618 En619
                      refine any_pureR (d := some 29) En619 (v := .bool (!(ByteArray.toList (bstr x77) == ByteArray.toList (bstr x80)))) 18 (by kernel_rfl) (by kernel_rfl) rfl ?_
                      intro ac620 En621
                      rw [Go.Dbr.bstr_eq x77 x80] at En621
                      refine any_pureR (d := some 30) En621 (v := .bool (!(x77 == x80))) 19 (by kernel_rfl) (by kernel_rfl) rfl ?_
                      intro ac622 En623
                      exact any_end (by kernel_rfl) ⟨En623.sub (by kernel_rfl), wo81.pick [0] (by kernel_rfl) (by decide)⟩
                    · rintro _ rfl
                      refine op_str (d := some 28) (src := 22) (dst := 9) (e := 5) (ao := a_x80) (cap := c_x80) (p := List.length x80) (bs := x80) En615 (by kernel_rfl) rfl (by kernel_rfl) (by kernel_rfl) (by kernel_rfl) (i_x80.ev wo81).reads i_x80.nz ?_
                      intro ac624 En625
                      refine any_at 11 (by kernel_rfl) rfl ?_
                      refine op_str (d := some 22) (src := 22) (dst := 9) (e := 5) (ao := a_x77) (cap := c_x77) (p := List.length x77) (bs := x77) En625 (by kernel_rfl) rfl (by kernel_rfl) (by kernel_rfl) (by kernel_rfl) (i_x77.ev wo81).reads i_x77.nz ?_
                      intro ac626 En627
                      refine any_pureR (d := some 29) En627 (v := .bool (!(ByteArray.toList (bstr x77) == ByteArray.toList (bstr x80)))) 18 (by kernel_rfl) (by kernel_rfl) rfl ?_
                      intro ac628 En629
                      rw [Go.Dbr.bstr_eq x77 x80] at En629
                      refine any_pureR (d := some 30) En629 (v := .bool (!(x77 == x80))) 19 (by kernel_rfl) (by kernel_rfl) rfl ?_
                      intro ac630 En631
                      exact any_end (by kernel_rfl) ⟨En631.sub (by kernel_rfl), wo81.pick [0] (by kernel_rfl) (by decide)⟩
                  · rintro _ rfl
                    refine op_str (d := some 28) (src := 22) (dst := 9) (e := 5) (ao := a_x80) (cap := c_x80) (p := List.length x80) (bs := x80) En613 (by kernel_rfl) rfl (by kernel_rfl) (by kernel_rfl) (by kernel_rfl) (i_x80.ev wo81).reads i_x80.nz ?_
                    intro ac632 En633
                    refine any_at 10 (by kernel_rfl) rfl ?_
                    refine op_loadf (d := some 21) (t := 22) (ad := adr526) (ao := ao) (ys := List.flatMap (fun s : Sl UInt8 => s.f) lo) (o := k) (v := .slice a_x77 (List.length x77) c_x77) En633 (by kernel_rfl) rfl (io.ro.ev wo81).reads had527 ((flat_get1 (fun _ _ => rfl) hx76).trans rfl) (by kernel_rfl) ?_
                    intro ac634 En635
                    refine any_at 11 (by kernel_rfl) rfl ?_
                    refine op_str (d := some 22) (src := 22) (dst := 9) (e := 5) (ao := a_x77) (cap := c_x77) (p := List.length x77) (bs := x77) En635 (by kernel_rfl) rfl (by kernel_rfl) (by kernel_rfl) (by kernel_rfl) (i_x77.ev wo81).reads i_x77.nz ?_
                    intro ac636 En637
                    refine any_pureR (d := some 29) En637 (v := .bool (!(ByteArray.toList (bstr x77) == ByteArray.toList (bstr x80)))) 18 (by kernel_rfl) (by kernel_rfl) rfl ?_
                    intro ac638 En639
                    rw [Go.Dbr.bstr_eq x77 x80] at En639
                    refine any_pureR (d := some 30) En639 (v := .bool (!(x77 == x80))) 19 (by kernel_rfl) (by kernel_rfl) rfl ?_
                    intro ac640 En641
                    exact any_end (by kernel_rfl) ⟨En641.sub (by kernel_rfl), wo81.pick [0] (by kernel_rfl) (by decide)⟩
            · rintro _ rfl
              refine op_index (d := some 26) (t := 32) (e := 22) (sz := 1) (len := List.length lg) (cap := cg) (j := k) (ao := ag) (k := .i64) (ix := ((k : Nat) : Int)) En525 (by kernel_rfl) ig.nz (by kernel_rfl) (by kernel_rfl) (by omega) (by omega) (jo := k) (Nat.mul_one _) ?_
              intro ac644 adr642 had643 En645
              refine any_two 9 16 (by kernel_rfl) ?_ ?_
              · rintro _ rfl
                refine op_index (d := some 20) (t := 32) (e := 22) (sz := 1) (len := List.length lo) (cap := co) (j := k) (ao := ao) (k := .i64) (ix := ((k : Nat) : Int)) En645 (by kernel_rfl) io.nz (by kernel_rfl) (by kernel_rfl) (by omega) (by omega) (jo := k) (Nat.mul_one _) ?_
                intro ac648 adr646 had647 En649
                refine any_two 10 16 (by kernel_rfl) ?_ ?_
                · rintro _ rfl
                  refine op_loadf (d := some 21) (t := 22) (ad := adr646) (ao := ao) (ys := List.flatMap (fun s : Sl UInt8 => s.f) lo) (o := k) (v := .slice a_x77 (List.length x77) c_x77) En649 (by kernel_rfl) rfl (io.ro.ev wo81).reads had647 ((flat_get1 (fun _ _ => rfl) hx76).trans rfl) (by kernel_rfl) ?_
                  intro ac650 En651
                  refine any_two 11 16 (by kernel_rfl) ?_ ?_
                  · rintro _ rfl
                    refine op_str (d := some 22) (src := 22) (dst := 9) (e := 5) (ao := a_x77) (cap := c_x77) (p := List.length x77) (bs := x77) En651 (by kernel_rfl) rfl (by kernel_rfl) (by kernel_rfl) (by kernel_rfl) (i_x77.ev wo81).reads i_x77.nz ?_
                    intro ac652 En653
                    refine any_at 16 (by kernel_rfl) rfl ?_
                    refine op_loadf (d := some 27) (t := 22) (ad := adr642) (ao := ag) (ys := List.flatMap (fun s : Sl UInt8 => s.f) lg) (o := k) (v := .slice a_x80 (List.length x80) c_x80) En653 (by kernel_rfl) rfl (ig.ro.ev wo81).reads had643 ((flat_get1 (fun _ _ => rfl) hx79).trans rfl) (by kernel_rfl) ?_
                    intro ac654 En655
                    refine any_at 17 (by kernel_rfl) rfl ?_
                    refine op_str (d := some 28) (src := 22) (dst := 9) (e := 5) (ao := a_x80) (cap := c_x80) (p := List.length x80) (bs := x80) En655 (by kernel_rfl) rfl (by kernel_rfl) (by kernel_rfl) (by kernel_rfl) (i_x80.ev wo81).reads i_x80.nz ?_
                    intro ac656 En657
                    refine any_pureR (d := some 29) En657 (v := .bool (!(ByteArray.toList (bstr x77) == ByteArray.toList (bstr x80)))) 18 (by kernel_rfl) (by kernel_rfl) rfl ?_
                    intro ac658 En659
                    rw [Go.Dbr.bstr_eq x77 x80] at En659
                    refine any_pureR (d := some 30) En659 (v := .bool (!(x77 == x80))) 19 (by kernel_rfl) (by kernel_rfl) rfl ?_
                    intro ac660 En661
                    exact any_end (by kernel_rfl) ⟨En661.sub (by kernel_rfl), wo81.pick [0] (by kernel_rfl) (by decide)⟩
                  · rintro _ rfl
                    refine op_loadf (d := some 27) (t := 22) (ad := adr642) (ao := ag) (ys := List.flatMap (fun s : Sl UInt8 => s.f) lg) (o := k) (v := .slice a_x80 (List.length x80) c_x80) En651 (by kernel_rfl) rfl (ig.ro.ev wo81).reads had643 ((flat_get1 (fun _ _ => rfl) hx79).trans rfl) (by kernel_rfl) ?_
                    intro ac662 En663
                    refine any_two 11 17 (by kernel_rfl) ?_ ?_
                    · rintro _ rfl
                      refine op_str (d := some 22) (src := 22) (dst := 9) (e := 5) (ao := a_x77) (cap := c_x77) (p := List.length x77) (bs := x77) En663 (by kernel_rfl) rfl (by kernel_rfl) (by kernel_rfl) (by kernel_rfl) (i_x77.ev wo81).reads i_x77.nz ?_
                      intro ac664 En665
                      refine any_at 17 (by kernel_rfl) rfl ?_
                      refine op_str (d := some 28) (src := 22) (dst := 9) (e := 5) (ao := a_x80) (cap := c_x80) (p := List.length x80) (bs := x80) En665 (by kernel_rfl) rfl (by kernel_rfl) (by kernel_rfl) (by kernel_rfl) (i_x80.ev wo81).reads i_x80.nz ?_
                      intro ac666 En667
                      refine any_pureR (d := some 29) En667 (v := .bool (!(ByteArray.toList (bstr x77) == ByteArray.toList (bstr x80)))) 18 (by kernel_rfl) (by kernel_rfl) rfl ?_
                      intro ac668 En669
                      rw [Go.Dbr.bstr_eq x77 x80] at En669
                      refine any_pureR (d := some 30) En669 (v := .bool (!(x77 == x80))) 19 (by kernel_rfl) (by kernel_rfl) rfl ?_
                      intro ac670 En671
                      exact any_end (by kernel_rfl) ⟨En671.sub (by kernel_rfl), wo81.pick [0] (by kernel_rfl) (by decide)⟩
                    · rintro _ rfl
                      refine op_str (d := some 28) (src := 22) (dst := 9) (e := 5) (ao := a_x80) (cap := c_x80) (p := List.length x80) (bs := x80) En663 (by kernel_rfl) rfl (by kernel_rfl) (by kernel_rfl) (by kernel_rfl) (i_x80.ev wo81).reads i_x80.nz ?_
                      intro ac672 En673
                      refine any_at 11 (by kernel_rfl) rfl ?_
                      refine op_str (d := some 22) (src := 22) (dst := 9) (e := 5) (ao := a_x77) (cap := c_x77) (p := List.length x77) (bs := x77) En673 (by kernel_rfl) rfl (by kernel_rfl) (by kernel_rfl) (by kernel_rfl) (i_x77.ev wo81).reads i_x77.nz ?_
                      intro ac674 En675
                      refine any_pureR (d := some 29) En675 (v := .bool (!(ByteArray.toList (bstr x77) == ByteArray.toList (bstr x80)))) 18 (by kernel_rfl) (by kernel_rfl) rfl ?_
                      intro ac676 En677
                      rw [Go.Dbr.bstr_eq x77 x80] at En677
                      refine any_pureR (d := some 30) En677 (v := .bool (!(x77 == x80))) 19 (by kernel_rfl) (by kernel_rfl) rfl ?_
                      intro ac678 En679
                      exact any_end (by kernel_rfl) ⟨En679.sub (by kernel_rfl), wo81.pick [0] (by kernel_rfl) (by decide)⟩
                · rintro _ rfl
                  refine op_loadf (d := some 27) (t := 22) (ad := adr642) (ao := ag) (ys := List.flatMap (fun s : Sl UInt8 => s.f) lg) (o := k) (v := .slice a_x80 (List.length x80) c_x80) En649 (by kernel_rfl) rfl (ig.ro.ev wo81).reads had643 ((flat_get1 (fun _ _ => rfl) hx79).trans rfl) (by kernel_rfl) ?_
                  intro ac680 En681
                  refine any_two 10 17 (by kernel_rfl) ?_ ?_
                  · rintro _ rfl
                    refine op_loadf (d := some 21) (t := 22) (ad := adr646) (ao := ao) (ys := List.flatMap (fun s : Sl UInt8 => s.f) lo) (o := k) (v := .slice a_x77 (List.length x77) c_x77) En681 (by kernel_rfl) rfl (io.ro.ev wo81).reads had647 ((flat_get1 (fun _ _ => rfl) hx76).trans rfl) (by kernel_rfl) ?_
                    intro ac682 En683
                    refine any_two 11 17 (by kernel_rfl) ?_ ?_
                    · rintro _ rfl
                      refine op_str (d := some 22) (src := 22) (dst := 9) (e := 5) (ao := a_x77) (cap := c_x77) (p := List.length x77) (bs := x77) En683 (by kernel_rfl) rfl (by kernel_rfl) (by kernel_rfl) (by kernel_rfl) (i_x77.ev wo81).reads i_x77.nz ?_
                      intro ac684 En685
                      refine any_at 17 (by kernel_rfl) rfl ?_
                      refine op_str (d := some 28) (src := 22) (dst := 9) (e := 5) (ao := a_x80) (cap := c_x80) (p := List.length x80) (bs := x80) En685 (by kernel_rfl) rfl (by kernel_rfl) (by kernel_rfl) (by kernel_rfl) (i_x80.ev wo81).reads i_x80.nz ?_
                      intro ac686 En687
                      refine any_pureR (d := some 29) En687 (v := .bool (!(ByteArray.toList (bstr x77) == ByteArray.toList (bstr x80)))) 18 (by kernel_rfl) (by kernel_rfl) rfl ?_
                      intro ac688 En689
                      rw [Go.Dbr.bstr_eq x77 x80] at En689
                      refine any_pureR (d := some 30) En689 (v := .bool (!(x77 == x80))) 19 (by kernel_rfl) (by kernel_rfl) rfl ?_
                      intro ac690 En691
                      exact any_end (by kernel_rfl) ⟨En691.sub (by kernel_rfl), wo81.pick [0] (by kernel_rfl) (by decide)⟩
                    · rintro _ rfl
                      refine op_str (d := some 28) (src := 22) (dst := 9) (e := 5) (ao := a_x80) (cap := c_x80) (p := List.length x80) (bs := x80) En683 (by kernel_rfl) rfl (by kernel_rfl) (by kernel_rfl) (by kernel_rfl) (i_x80.ev wo81).reads i_x80.nz ?_
                      intro ac692 En693
                      refine any_at 11 (by kernel_rfl) rfl ?_
                      refine op_str (d := some 22) (src := 22) (dst := 9) (e := 5) (ao := a_x77) (cap := c_x77) (p := List.length x77) (bs := x77) En693 (by kernel_rfl) rfl (by kernel_rfl) (by kernel_rfl) (by kernel_rfl) (i_x77.ev wo81).reads i_x77.nz ?_
                      intro ac694 En695
                      refine any_pureR (d := some 29) En695 (v := .bool (!(ByteArray.toList (bstr x77) == ByteArray.toList (bstr x80)))) 18 (by kernel_rfl) (by kernel_rfl) rfl ?_
                      intro ac696 En697
                      rw [Go.Dbr.bstr_eq x77 x80] at En697
                      refine any_pureR (d := some 30) En697 (v := .bool (!(x77 == x80))) 19 (by kernel_rfl) (by kernel_rfl) rfl ?_
                      intro ac698 En699
                      exact any_end (by kernel_rfl) ⟨En699.sub (by kernel_rfl), wo81.pick [0] (by kernel_rfl) (by decide)⟩
                  · rintro _ rfl
                    refine op_str (d := some 28) (src := 22) (dst := 9) (e := 5) (ao := a_x80) (cap := c_x80) (p := List.length x80) (bs := x80) En681 (by kernel_rfl) rfl (by kernel_rfl) (by kernel_rfl) (by kernel_rfl) (i_x80.ev wo81).reads i_x80.nz ?_
                    intro ac700 En701
                    refine any_at 10 (by kernel_rfl) rfl ?_
                    refine op_loadf (d := some 21) (t := 22) (ad := adr646) (ao := ao) (ys := List.flatMap (fun s : Sl UInt8 => s.f) lo) (o := k) (v := .slice a_x77 (List.length x77) c_x77) En701 (by kernel_rfl) rfl (io.ro.ev wo81).reads had647 ((flat_get1 (fun _ _ => rfl) hx76).trans rfl) (by kernel_rfl) ?_
                    intro ac702 En703
                    refine any_at 11 (by kernel_rfl) rfl ?_
                    refine op_str (d := some 22) (src := 22) (dst := 9) (e := 5) (ao := a_x77) (cap := c_x77) (p := List.length x77) (bs := x77) En703 (by kernel_rfl) rfl (by kernel_rfl) (by kernel_rfl) (by kernel_rfl) (i_x77.ev wo81).reads i_x77.nz ?_
                    intro ac704 En705
                    refine any_pureR (d := some 29) En705 (v := .bool (!(ByteArray.toList (bstr x77) == ByteArray.toList (bstr x80)))) 18 (by kernel_rfl) (by kernel_rfl) rfl ?_
                    intro ac706 En707
                    rw [Go.Dbr.bstr_eq x77 x80] at En707
                    refine any_pureR (d := some 30) En707 (v := .bool (!(x77 == x80))) 19 (by kernel_rfl) (by kernel_rfl) rfl ?_
                    intro ac708 En709
                    exact any_end (by kernel_rfl) ⟨En709.sub (by kernel_rfl), wo81.pick [0] (by kernel_rfl) (by decide)⟩
              · rintro _ rfl
                refine op_loadf (d := some 27) (t := 22) (ad := adr642) (ao := ag) (ys := List.flatMap (fun s : Sl UInt8 => s.f) lg) (o := k) (v := .slice a_x80 (List.length x80) c_x80) En645 (by kernel_rfl) rfl (ig.ro.ev wo81).reads had643 ((flat_get1 (fun _ _ => rfl) hx79).trans rfl) (by kernel_rfl) ?_
                intro ac710 En711
                refine any_two 9 17 (by kernel_rfl) ?_ ?_
                · rintro _ rfl
                  refine op_index (d := some 20) (t := 32) (e := 22) (sz := 1) (len := List.length lo) (cap := co) (j := k) (ao := ao) (k := .i64) (ix := ((k : Nat) : Int)) En711 (by kernel_rfl) io.nz (by kernel_rfl) (by kernel_rfl) (by omega) (by omega) (jo := k) (Nat.mul_one _) ?_
                  intro ac714 adr712 had713 En715
                  refine any_two 10 17 (by kernel_rfl) ?_ ?_
                  · rintro _ rfl
                    refine op_loadf (d := some 21) (t := 22) (ad := adr712) (ao := ao) (ys := List.flatMap (fun s : Sl UInt8 => s.f) lo) (o := k) (v := .slice a_x77 (List.length x77) c_x77) En715 (by kernel_rfl) rfl (io.ro.ev wo81).reads had713 ((flat_get1 (fun _ _ => rfl) hx76).trans rfl) (by kernel_rfl) ?_
                    intro ac716 En717
                    refine any_two 11 17 (by kernel_rfl) ?_ ?_
                    · rintro _ rfl
                      refine op_str (d := some 22) (src := 22) (dst := 9) (e := 5) (ao := a_x77) (cap := c_x77) (p := List.length x77) (bs := x77) En717 (by kernel_rfl) rfl (by kernel_rfl) (by kernel_rfl) (by kernel_rfl) (i_x77.ev wo81).reads i_x77.nz ?_
                      intro ac718 En719
                      refine any_at 17 (by kernel_rfl) rfl ?_
                      refine op_str (d := some 28) (src := 22) (dst := 9) (e := 5) (ao := a_x80) (cap := c_x80) (p := List.length x80) (bs := x80) En719 (by kernel_rfl) rfl (by kernel_rfl) (by kernel_rfl) (by kernel_rfl) (i_x80.ev wo81).reads i_x80.nz ?_
                      intro ac720 En721
                      refine any_pureR (d := some 29) En721 (v := .bool (!(ByteArray.toList (bstr x77) == ByteArray.toList (bstr x80)))) 18 (by kernel_rfl) (by kernel_rfl) rfl ?_
                      intro ac722 En723
                      rw [Go.Dbr.bstr_eq x77 x80] at En723
                      refine any_pureR (d := some 30) En723 (v := .bool (!(x77 == x80))) 19 (by kernel_rfl) (by kernel_rfl) rfl ?_
                      intro ac724 En725
                      exact any_end (by kernel_rfl) ⟨En725.sub (by kernel_rfl), wo81.pick [0] (by kernel_rfl) (by decide)⟩
                    · rintro _ rfl
                      refine op_str (d := some 28) (src := 22) (dst := 9) (e := 5) (ao := a_x80) (cap := c_x80) (p := List.length x80) (bs := x80) En717 (by kernel_rfl) rfl (by kernel_rfl) (by kernel_rfl) (by kernel_rfl) (i_x80.ev wo81).reads i_x80.nz ?_
                      intro ac726 En727
                      refine any_at 11 (by kernel_rfl) rfl ?_
                      refine op_str (d := some 22) (src := 22) (dst := 9) (e := 5) (ao := a_x77) (cap := c_x77) (p := List.length x77) (bs := x77) En727 (by kernel_rfl) rfl (by kernel_rfl) (by kernel_rfl) (by kernel_rfl) (i_x77.ev wo81).reads i_x77.nz ?_
                      intro ac728 En729
                      refine any_pureR (d := some 29) En729 (v := .bool (!(ByteArray.toList (bstr x77) == ByteArray.toList (bstr x80)))) 18 (by kernel_rfl) (by kernel_rfl) rfl ?_
                      intro ac730 En731
                      rw [Go.Dbr.bstr_eq x77 x80] at En731
                      refine any_pureR (d := some 30) En731 (v := .bool (!(x77 == x80))) 19 (by kernel_rfl) (by kernel_rfl) rfl ?_
                      intro ac732 En733
                      exact any_end (by kernel_rfl) ⟨En733.sub (by kernel_rfl), wo81.pick [0] (by kernel_rfl) (by decide)⟩
                  · rintro _ rfl
                    refine op_str (d := some 28) (src := 22) (dst := 9) (e := 5) (ao := a_x80) (cap := c_x80) (p := List.length x80) (bs := x80) En715 (by kernel_rfl) rfl (by kernel_rfl) (by kernel_rfl) (by kernel_rfl) (i_x80.ev wo81).reads i_x80.nz ?_
                    intro ac734 En735
                    refine any_at 10 (by kernel_rfl) rfl ?_
                    refine op_loadf (d := some 21) (t := 22) (ad := adr712) (ao := ao) (ys := List.flatMap (fun s : Sl UInt8 => s.f) lo) (o := k) (v := .slice a_x77 (List.length x77) c_x77) En735 (by kernel_rfl) rfl (io.ro.ev wo81).reads had713 ((flat_get1 (fun _ _ => rfl) hx76).trans rfl) (by kernel_rfl) ?_
                    intro ac736 En737
                    refine any_at 11 (by kernel_rfl) rfl ?_
                    refine op_str (d := some 22) (src := 22) (dst := 9) (e := 5) (ao := a_x77) (cap := c_x77) (p := List.length x77) (bs := x77) En737 (by kernel_rfl) rfl (by kernel_rfl) (by kernel_rfl) (by kernel_rfl) (i_x77.ev wo81).reads i_x77.nz ?_
                    intro ac738 En739
                    refine any_pureR (d := some 29) En739 (v := .bool (!(ByteArray.toList (bstr x77) == ByteArray.toList (bstr x80)))) 18 (by kernel_rfl) (by kernel_rfl) rfl ?_
                    intro ac740 En741
                    rw [Go.Dbr.bstr_eq x77 x80] at En741
                    refine any_pureR (d := some 30) En741 (v := .bool (!(x77 == x80))) 19 (by kernel_rfl) (by kernel_rfl) rfl ?_
                    intro ac742 En743
                    exact any_end (by kernel_rfl) ⟨En743.sub (by kernel_rfl), wo81.pick [0] (by kernel_rfl) (by decide)⟩
                · rintro _ rfl
                  refine op_str (d := some 28) (src := 22) (dst := 9) (e := 5) (ao := a_x80) (cap := c_x80) (p := List.length x80) (bs := x80) En711 (by kernel_rfl) rfl (by kernel_rfl) (by kernel_rfl) (by kernel_rfl) (i_x80.ev wo81).reads i_x80.nz ?_
                  intro ac744 En745
                  refine any_at 9 (by kernel_rfl) rfl ?_
                  refine op_index (d := some 20) (t := 32) (e := 22) (sz := 1) (len := List.length lo) (cap := co) (j := k) (ao := ao) (k := .i64) (ix := ((k : Nat) : Int)) En745 (by kernel_rfl) io.nz (by kernel_rfl) (by kernel_rfl) (by omega) (by omega) (jo := k) (Nat.mul_one _) ?_
                  intro ac748 adr746 had747 En749
                  refine any_at 10 (by kernel_rfl) rfl ?_
                  refine op_loadf (d := some 21) (t := 22) (ad := adr746) (ao := ao) (ys := List.flatMap (fun s : Sl UInt8 => s.f) lo) (o := k) (v := .slice a_x77 (List.length x77) c_x77) En749 (by kernel_rfl) rfl (io.ro.ev wo81).reads had747 ((flat_get1 (fun _ _ => rfl) hx76).trans rfl) (by kernel_rfl) ?_
                  intro ac750 En751
                  refine any_at 11 (by kernel_rfl) rfl ?_
                  refine op_str (d := some 22) (src := 22) (dst := 9) (e := 5) (ao := a_x77) (cap := c_x77) (p := List.length x77) (bs := x77) En751 (by kernel_rfl) rfl (by kernel_rfl) (by kernel_rfl) (by kernel_rfl) (i_x77.ev wo81).reads i_x77.nz ?_
                  intro ac752 En753
                  refine any_pureR (d := some 29) En753 (v := .bool (!(ByteArray.toList (bstr x77) == ByteArray.toList (bstr x80)))) 18 (by kernel_rfl) (by kernel_rfl) rfl ?_
                  intro ac754 En755
                  rw [Go.Dbr.bstr_eq x77 x80] at En755
                  refine any_pureR (d := some 30) En755 (v := .bool (!(x77 == x80))) 19 (by kernel_rfl) (by kernel_rfl) rfl ?_
                  intro ac756 En757
                  exact any_end (by kernel_rfl) ⟨En757.sub (by kernel_rfl), wo81.pick [0] (by kernel_rfl) (by decide)⟩
          · rintro _ rfl
            refine op_index (d := some 26) (t := 32) (e := 22) (sz := 1) (len := List.length lg) (cap := cg) (j := k) (ao := ag) (k := .i64) (ix := ((k : Nat) : Int)) En523 (by kernel_rfl) ig.nz (by kernel_rfl) (by kernel_rfl) (by omega) (by omega) (jo := k) (Nat.mul_one _) ?_
            intro ac760 adr758 had759 En761
            refine any_two 7 16 (by kernel_rfl) ?_ ?_
            · rintro _ rfl
              refine op_loadbox (d := some 18) (t := 32) (b := bk1) (off := 1) (k := 0) (v := .slice ao (List.length lo) co) En761 (by kernel_rfl) wo81 rfl rfl (by kernel_rfl) ?_
              intro ac762 En763
              refine any_two 9 16 (by kernel_rfl) ?_ ?_
              · rintro _ rfl
                refine op_index (d := some 20) (t := 32) (e := 22) (sz := 1) (len := List.length lo) (cap := co) (j := k) (ao := ao) (k := .i64) (ix := ((k : Nat) : Int)) En763 (by kernel_rfl) io.nz (by kernel_rfl) (by kernel_rfl) (by omega) (by omega) (jo := k) (Nat.mul_one _) ?_
                intro ac766 adr764 had765 En767
                refine any_two 10 16 (by kernel_rfl) ?_ ?_
                · rintro _ rfl
                  refine op_loadf (d := some 21) (t := 22) (ad := adr764) (ao := ao) (ys := List.flatMap (fun s : Sl UInt8 => s.f) lo) (o := k) (v := .slice a_x77 (List.length x77) c_x77) En767 (by kernel_rfl) rfl (io.ro.ev wo81).reads had765 ((flat_get1 (fun _ _ => rfl) hx76).trans rfl) (by kernel_rfl) ?_
                  intro ac768 En769
                  refine any_two 11 16 (by kernel_rfl) ?_ ?_
                  · rintro _ rfl
                    refine op_str (d := some 22) (src := 22) (dst := 9) (e := 5) (ao := a_x77) (cap := c_x77) (p := List.length x77) (bs := x77) En769 (by kernel_rfl) rfl (by kernel_rfl) (by kernel_rfl) (by kernel_rfl) (i_x77.ev wo81).reads i_x77.nz ?_
                    intro ac770 En771
                    refine any_at 16 (by kernel_rfl) rfl ?_
                    refine op_loadf (d := some 27) (t := 22) (ad := adr758) (ao := ag) (ys := List.flatMap (fun s : Sl UInt8 => s.f) lg) (o := k) (v := .slice a_x80 (List.length x80) c_x80) En771 (by kernel_rfl) rfl (ig.ro.ev wo81).reads had759 ((flat_get1 (fun _ _ => rfl) hx79).trans rfl) (by kernel_rfl) ?_
                    intro ac772 En773
                    refine any_at 17 (by kernel_rfl) rfl ?_
                    refine op_str (d := some 28) (src := 22) (dst := 9) (e := 5) (ao := a_x80) (cap := c_x80) (p := List.length x80) (bs := x80) En773 (by kernel_rfl) rfl (by kernel_rfl) (by kernel_rfl) (by kernel_rfl) (i_x80.ev wo81).reads i_x80.nz ?_
                    intro ac774 En775
                    refine any_pureR (d := some 29) En775 (v := .bool (!(ByteArray.toList (bstr x77) == ByteArray.toList (bstr x80)))) 18 (by kernel_rfl) (by kernel_rfl) rfl ?_
                    intro ac776 En777
                    rw [Go.Dbr.bstr_eq x77 x80] at En777
                    refine any_pureR (d := some 30) En777 (v := .bool (!(x77 == x80))) 19 (by kernel_rfl) (by kernel_rfl) rfl ?_
                    intro ac778 En779
                    exact any_end (by kernel_rfl) ⟨En779.sub (by kernel_rfl), wo81.pick [0] (by kernel_rfl) (by decide)⟩
                  · rintro _ rfl
                    refine op_loadf (d := some 27) (t := 22) (ad := adr758) (ao := ag) (ys := List.flatMap (fun s : Sl UInt8 => s.f) lg) (o := k) (v := .slice a_x80 (List.length x80) c_x80) En769 (by kernel_rfl) rfl (ig.ro.ev wo81).reads had759 ((flat_get1 (fun _ _ => rfl) hx79).trans rfl) (by kernel_rfl) ?_
                    intro ac780 En781
                    refine any_two 11 17 (by kernel_rfl) ?_ ?_
                    · rintro _ rfl
                      refine op_str (d := some 22) (src := 22) (dst := 9) (e := 5) (ao := a_x77) (cap := c_x77) (p := List.length x77) (bs := x77) En781 (by kernel_rfl) rfl (by kernel_rfl) (by kernel_rfl) (by kernel_rfl) (i_x77.ev wo81).reads i_x77.nz ?_
                      intro ac782 En783
                      refine any_at 17 (by kernel_rfl) rfl ?_
                      refine op_str (d := some 28) (src := 22) (dst := 9) (e := 5) (ao := a_x80) (cap := c_x80) (p := List.length x80) (bs := x80) En783 (by kernel_rfl) rfl (by kernel_rfl) (by kernel_rfl) (by kernel_rfl) (i_x80.ev wo81).reads i_x80.nz ?_
                      intro ac784 En785
                      refine any_pureR (d := some 29) En785 (v := .bool (!(ByteArray.toList (bstr x77) == ByteArray.toList (bstr x80)))) 18 (by kernel_rfl) (by kernel_rfl) rfl ?_
                      intro ac786 En787
                      rw [Go.Dbr.bstr_eq x77 x80] at En787
                      refine any_pureR (d := some 30) En787 (v := .bool (!(x77 == x80))) 19 (by kernel_rfl) (by kernel_rfl) rfl ?_
                      intro ac788 En789
                      exact any_end (by kernel_rfl) ⟨En789.sub (by kernel_rfl), wo81.pick [0] (by kernel_rfl) (by decide)⟩
                    · rintro _ rfl
                      refine op_str (d := some 28) (src := 22) (dst := 9) (e := 5) (ao := a_x80) (cap := c_x80) (p := List.length x80) (bs := x80) En781 (by kernel_rfl) rfl (by kernel_rfl) (by kernel_rfl) (by kernel_rfl) (i_x80.ev wo81).reads i_x80.nz ?_
                      intro ac790 En791
                      refine any_at 11 (by kernel_rfl) rfl ?_
                      refine op_str (d := some 22) (src := 22) (dst := 9) (e := 5) (ao := a_x77) (cap := c_x77) (p := List.length x77) (bs := x77) En791 (by kernel_rfl) rfl (by kernel_rfl) (by kernel_rfl) (by kernel_rfl) (i_x77.ev wo81).reads i_x77.nz ?_
                      intro ac792 En793
                      refine any_pureR (d := some 29) En793 (v := .bool (!(ByteArray.toList (bstr x77) == ByteArray.toList (bstr x80)))) 18 (by kernel_rfl) (by kernel_rfl) rfl ?_
                      intro ac794 En795
                      rw [Go.Dbr.bstr_eq x77 x80] at En795
                      refine any_pureR (d := some 30) En795 (v := .bool (!(x77 == x80))) 19 (by kernel_rfl) (by kernel_rfl) rfl ?_
                      intro ac796 En797
                      exact any_end (by kernel_rfl) ⟨En797.sub (by kernel_rfl), wo81.pick [0] (by kernel_rfl) (by decide)⟩
                · rintro _ rfl
                  refine op_loadf (d := some 27) (t := 22) (ad := adr758) (ao := ag) (ys := List.flatMap (fun s : Sl UInt8 => s.f) lg) (o := k) (v := .slice a_x80 (List.length x80) c_x80) En767 (by kernel_rfl) rfl (ig.ro.ev wo81).reads had759 ((flat_get1 (fun _ _ => rfl) hx79).trans rfl) (by kernel_rfl) ?_
                  intro ac798 En799
                  refine any_two 10 17 (by kernel_rfl) ?_ ?_
                  · rintro _ rfl
                    refine op_loadf (d := some 21) (t := 22) (ad := adr764) (ao := ao) (ys := List.flatMap (fun s : Sl UInt8 => s.f) lo) (o := k) (v := .slice a_x77 (List.length x77) c_x77) En799 (by kernel_rfl) rfl (io.ro.ev wo81).reads had765 ((flat_get1 (fun _ _ => rfl) hx76).trans rfl) (by kernel_rfl) ?_
                    intro ac800 En801
                    refine any_two 11 17 (by kernel_rfl) ?_ ?_
                    · rintro _ rfl
                      refine op_str (d := some 22) (src := 22) (dst := 9) (e := 5) (ao := a_x77) (cap := c_x77) (p := List.length x77) (bs := x77) En801 (by kernel_rfl) rfl (by kernel_rfl) (by kernel_rfl) (by kernel_rfl) (i_x77.ev wo81).reads i_x77.nz ?_
                      intro ac802 En803
                      refine any_at 17 (by kernel_rfl) rfl ?_
                      refine op_str (d := some 28) (src := 22) (dst := 9) (e := 5) (ao := a_x80) (cap := c_x80) (p := List.length x80) (bs := x80) En803 (by kernel_rfl) rfl (by kernel_rfl) (by kernel_rfl) (by kernel_rfl) (i_x80.ev wo81).reads i_x80.nz ?_
                      intro ac804 En805
                      refine any_pureR (d := some 29) En805 (v := .bool (!(ByteArray.toList (bstr x77) == ByteArray.toList (bstr x80)))) 18 (by kernel_rfl) (by kernel_rfl) rfl ?_
                      intro ac806 En807
                      rw [Go.Dbr.bstr_eq x77 x80] at En807
                      refine any_pureR (d := some 30) En807 (v := .bool (!(x77 == x80))) 19 (by kernel_rfl) (by kernel_rfl) rfl ?_
                      intro ac808 En809
                      exact any_end (by kernel_rfl) ⟨En809.sub (by kernel_rfl), wo81.pick [0] (by kernel_rfl) (by decide)⟩
                    · rintro _ rfl
                      refine op_str (d := some 28) (src := 22) (dst := 9) (e := 5) (ao := a_x80) (cap := c_x80) (p := List.length x80) (bs := x80) En801 (by kernel_rfl) rfl (by kernel_rfl) (by kernel_rfl) (by kernel_rfl) (i_x80.ev wo81).reads i_x80.nz ?_
                      intro ac810 En811
                      refine any_at 11 (by kernel_rfl) rfl ?_
                      refine op_str (d := some 22) (src := 22) (dst := 9) (e := 5) (ao := a_x77) (cap := c_x77) (p := List.length x77) (bs := x77) En811 (by kernel_rfl) rfl (by kernel_rfl) (by kernel_rfl) (by kernel_rfl) (i_x77.ev wo81).reads i_x77.nz ?_
                      intro ac812 En813
                      refine any_pureR (d := some 29) En813 (v := .bool (!(ByteArray.toList (bstr x77) == ByteArray.toList (bstr x80)))) 18 (by kernel_rfl) (by kernel_rfl) rfl ?_
                      intro ac814 En815
                      rw [Go.Dbr.bstr_eq x77 x80] at En815
                      refine any_pureR (d := some 30) En815 (v := .bool (!(x77 == x80))) 19 (by kernel_rfl) (by kernel_rfl) rfl ?_
                      intro ac816 En817
                      exact any_end (by kernel_rfl) ⟨En817.sub (by kernel_rfl), wo81.pick [0] (by kernel_rfl) (by decide)⟩
                  · rintro _ rfl
                    refine op_str (d := some 28) (src := 22) (dst := 9) (e := 5) (ao := a_x80) (cap := c_x80) (p := List.length x80) (bs := x80) En799 (by kernel_rfl) rfl (by kernel_rfl) (by kernel_rfl) (by kernel_rfl) (i_x80.ev wo81).reads i_x80.nz ?_
                    intro ac818 En819
                    refine any_at 10 (by kernel_rfl) rfl ?_
                    refine op_loadf (d := some 21) (t := 22) (ad := adr764) (ao := ao) (ys := List.flatMap (fun s : Sl UInt8 => s.f) lo) (o := k) (v := .slice a_x77 (List.length x77) c_x77) En819 (by kernel_rfl) rfl (io.ro.ev wo81).reads had765 ((flat_get1 (fun _ _ => rfl) hx76).trans rfl) (by kernel_rfl) ?_
                    intro ac820 En821
                    refine any_at 11 (by kernel_rfl) rfl ?_
                    refine op_str (d := some 22) (src := 22) (dst := 9) (e := 5) (ao := a_x77) (cap := c_x77) (p := List.length x77) (bs := x77) En821 (by kernel_rfl) rfl (by kernel_rfl) (by kernel_rfl) (by kernel_rfl) (i_x77.ev wo81).reads i_x77.nz ?_
                    intro ac822 En823
                    refine any_pureR (d := some 29) En823 (v := .bool (!(ByteArray.toList (bstr x77) == ByteArray.toList (bstr x80)))) 18 (by kernel_rfl) (by kernel_rfl) rfl ?_
                    intro ac824 En825
                    rw [Go.Dbr.bstr_eq x77 x80] at En825
                    refine any_pureR (d := some 30) En825 (v := .bool (!(x77 == x80))) 19 (by kernel_rfl) (by kernel_rfl) rfl ?_
                    intro ac826 En827
                    exact any_end (by kernel_rfl) ⟨En827.sub (by kernel_rfl), wo81.pick [0] (by kernel_rfl) (by decide)⟩
              · rintro _ rfl
                refine op_loadf (d := some 27) (t := 22) (ad := adr758) (ao := ag) (ys := List.flatMap (fun s : Sl UInt8 => s.f) lg) (o := k) (v := .slice a_x80 (List.length x80) c_x80) En763 (by kernel_rfl) rfl (ig.ro.ev wo81).reads had759 ((flat_get1 (fun _ _ => rfl) hx79).trans rfl) (by kernel_rfl) ?_
                intro ac828 En829
                refine any_two 9 17 (by kernel_rfl) ?_ ?_
                · rintro _ rfl
                  refine op_index (d := some 20) (t := 32) (e := 22) (sz := 1) (len := List.length lo) (cap := co) (j := k) (ao := ao) (k := .i64) (ix := ((k : Nat) : Int)) En829 (by kernel_rfl) io.nz (by kernel_rfl) (by kernel_rfl) (by omega) (by omega) (jo := k) (Nat.mul_one _) ?_
                  intro ac832 adr830 had831 En833
                  refine any_two 10 17 (by kernel_rfl) ?_ ?_
                  · rintro _ rfl
                    refine op_loadf (d := some 21) (t := 22) (ad := adr830) (ao := ao) (ys := List.flatMap (fun s : Sl UInt8 => s.f) lo) (o := k) (v := .slice a_x77 (List.length x77) c_x77) En833 (by kernel_rfl) rfl (io.ro.ev wo81).reads had831 ((flat_get1 (fun _ _ => rfl) hx76).trans rfl) (by kernel_rfl) ?_
                    intro ac834 En835
                    refine any_two 11 17 (by kernel_rfl) ?_ ?_
                    · rintro _ rfl
                      refine op_str (d := some 22) (src := 22) (dst := 9) (e := 5) (ao := a_x77) (cap := c_x77) (p := List.length x77) (bs := x77) En835 (by kernel_rfl) rfl (by kernel_rfl) (by kernel_rfl) (by kernel_rfl) (i_x77.ev wo81).reads i_x77.nz ?_
                      intro ac836 En837
                      refine any_at 17 (by kernel_rfl) rfl ?_
                      refine op_str (d := some 28) (src := 22) (dst := 9) (e := 5) (ao := a_x80) (cap := c_x80) (p := List.length x80) (bs := x80) En837 (by kernel_rfl) rfl (by kernel_rfl) (by kernel_rfl) (by kernel_rfl) (i_x80.ev wo81).reads i_x80.nz ?_
                      intro ac838 En839
                      refine any_pureR (d := some 29) En839 (v := .bool (!(ByteArray.toList (bstr x77) == ByteArray.toList (bstr x80)))) 18 (by kernel_rfl) (by kernel_rfl) rfl ?_
                      intro ac840 En841
                      rw [Go.Dbr.bstr_eq x77 x80] at En841
                      refine any_pureR (d := some 30) En841 (v := .bool (!(x77 == x80))) 19 (by kernel_rfl) (by kernel_rfl) rfl ?_
                      intro ac842 En843
                      exact any_end (by kernel_rfl) ⟨En843.sub (by kernel_rfl), wo81.pick [0] (by kernel_rfl) (by decide)⟩
                    · rintro _ rfl
                      refine op_str (d := some 28) (src := 22) (dst := 9) (e := 5) (ao := a_x80) (cap := c_x80) (p := List.length x80) (bs := x80) En835 (by kernel_rfl) rfl (by kernel_rfl) (by kernel_rfl) (by kernel_rfl) (i_x80.ev wo81).reads i_x80.nz ?_
                      intro ac844 En845
                      refine any_at 11 (by kernel_rfl) rfl ?_
                      refine op_str (d := some 22) (src := 22) (dst := 9) (e := 5) (ao := a_x77) (cap := c_x77) (p := List.length x77) (bs := x77) En845 (by kernel_rfl) rfl (by kernel_rfl) (by kernel_rfl) (by kernel_rfl) (i_x77.ev wo81).reads i_x77.nz ?_
                      intro ac846 En847
                      refine any_pureR (d := some 29) En847 (v := .bool (!(ByteArray.toList (bstr x77) == ByteArray.toList (bstr x80)))) 18 (by kernel_rfl) (by kernel_rfl) rfl ?_
                      intro ac848 En849
                      rw [Go.Dbr.bstr_eq x77 x80] at En849
                      refine any_pureR (d := some 30) En849 (v := .bool (!(x77 == x80))) 19 (by kernel_rfl) (by kernel_rfl) rfl ?_
                      intro ac850 En851
                      exact any_end (by kernel_rfl) ⟨En851.sub (by kernel_rfl), wo81.pick [0] (by kernel_rfl) (by decide)⟩
                  · rintro _ rfl
                    refine op_str (d := some 28) (src := 22) (dst := 9) (e := 5) (ao := a_x80) (cap := c_x80) (p := List.length x80) (bs := x80) En833 (by kernel_rfl) rfl (by kernel_rfl) (by kernel_rfl) (by kernel_rfl) (i_x80.ev wo81).reads i_x80.nz ?_
                    intro ac852 En853
                    refine any_at 10 (by kernel_rfl) rfl ?_
                    refine op_loadf (d := some 21) (t := 22) (ad := adr830) (ao := ao) (ys := List.flatMap (fun s : Sl UInt8 => s.f) lo) (o := k) (v := .slice a_x77 (List.length x77) c_x77) En853 (by kernel_rfl) rfl (io.ro.ev wo81).reads had831 ((flat_get1 (fun _ _ => rfl) hx76).trans rfl) (by kernel_rfl) ?_
                    intro ac854 En855
                    refine any_at 11 (by kernel_rfl) rfl ?_
                    refine op_str (d := some 22) (src := 22) (dst := 9) (e := 5) (ao := a_x77) (cap := c_x77) (p := List.length x77) (bs := x77) En855 (by kernel_rfl) rfl (by kernel_rfl) (by kernel_rfl) (by kernel_rfl) (i_x77.ev wo81).reads i_x77.nz ?_
                    intro ac856 En857
                    refine any_pureR (d := some 29) En857 (v := .bool (!(ByteArray.toList (bstr x77) == ByteArray.toList (bstr x80)))) 18 (by kernel_rfl) (by kernel_rfl) rfl ?_
                    intro ac858 En859
                    rw [Go.Dbr.bstr_eq x77 x80] at En859
                    refine any_pureR (d := some 30) En859 (v := .bool (!(x77 == x80))) 19 (by kernel_rfl) (by kernel_rfl) rfl ?_
                    intro ac860 En861
                    exact any_end (by kernel_rfl) ⟨En861.sub (by kernel_rfl), wo81.pick [0] (by kernel_rfl) (by decide)⟩
                · rintro _ rfl
                  refine op_str (d := some 28) (src := 22) (dst := 9) (e := 5) (ao := a_x80) (cap := c_x80) (p := List.length x80) (bs := x80) En829 (by kernel_rfl) rfl (by kernel_rfl) (by kernel_rfl) (by kernel_rfl) (i_x80.ev wo81).reads i_x80.nz ?_
                  intro ac862 En863
                  refine any_at 9 (by kernel_rfl) rfl ?_
                  refine op_index (d := some 20) (t := 32) (e := 22) (sz := 1) (len := List.length lo) (cap := co) (j := k) (ao := ao) (k := .i64) (ix := ((k : Nat) : Int)) En863 (by kernel_rfl) io.nz (by kernel_rfl) (by kernel_rfl) (by omega) (by omega) (jo := k) (Nat.mul_one _) ?_
                  intro ac866 adr864 had865 En867
                  refine any_at 10 (by kernel_rfl) rfl ?_
                  refine op_loadf (d := some 21) (t := 22) (ad := adr864) (ao := ao) (ys := List.flatMap (fun s : Sl UInt8 => s.f) lo) (o := k) (v := .slice a_x77 (List.length x77) c_x77) En867 (by kernel_rfl) rfl (io.ro.ev wo81).reads had865 ((flat_get1 (fun _ _ => rfl) hx76).trans rfl) (by kernel_rfl) ?_
                  intro ac868 En869
                  refine any_at 11 (by kernel_rfl) rfl ?_
                  refine op_str (d := some 22) (src := 22) (dst := 9) (e := 5) (ao := a_x77) (cap := c_x77) (p := List.length x77) (bs := x77) En869 (by kernel_rfl) rfl (by kernel_rfl) (by kernel_rfl) (by kernel_rfl) (i_x77.ev wo81).reads i_x77.nz ?_
                  intro ac870 En871
                  refine any_pureR (d := some 29) En871 (v := .bool (!(ByteArray.toList (bstr x77) == ByteArray.toList (bstr x80)))) 18 (by kernel_rfl) (by kernel_rfl) rfl ?_
                  intro ac872 En873
                  rw [Go.Dbr.bstr_eq x77 x80] at En873
                  refine any_pureR (d := some 30) En873 (v := .bool (!(x77 == x80))) 19 (by kernel_rfl) (by kernel_rfl) rfl ?_
                  intro ac874 En875
                  exact any_end (by kernel_rfl) ⟨En875.sub (by kernel_rfl), wo81.pick [0] (by kernel_rfl) (by decide)⟩
            · rintro _ rfl
              refine op_loadf (d := some 27) (t := 22) (ad := adr758) (ao := ag) (ys := List.flatMap (fun s : Sl UInt8 => s.f) lg) (o := k) (v := .slice a_x80 (List.length x80) c_x80) En761 (by kernel_rfl) rfl (ig.ro.ev wo81).reads had759 ((flat_get1 (fun _ _ => rfl) hx79).trans rfl) (by kernel_rfl) ?_
              intro ac876 En877
              refine any_two 7 17 (by kernel_rfl) ?_ ?_
              · rintro _ rfl
                refine op_loadbox (d := some 18) (t := 32) (b := bk1) (off := 1) (k := 0) (v := .slice ao (List.length lo) co) En877 (by kernel_rfl) wo81 rfl rfl (by kernel_rfl) ?_
                intro ac878 En879
                refine any_two 9 17 (by kernel_rfl) ?_ ?_
                · rintro _ rfl
                  refine op_index (d := some 20) (t := 32) (e := 22) (sz := 1) (len := List.length lo) (cap := co) (j := k) (ao := ao) (k := .i64) (ix := ((k : Nat) : Int)) En879 (by kernel_rfl) io.nz (by kernel_rfl) (by kernel_rfl) (by omega) (by omega) (jo := k) (Nat.mul_one _) ?_
                  intro ac882 adr880 had881 En883
                  refine any_two 10 17 (by kernel_rfl) ?_ ?_
                  · rintro _ rfl
                    refine op_loadf (d := some 21) (t := 22) (ad := adr880) (ao := ao) (ys := List.flatMap (fun s : Sl UInt8 => s.f) lo) (o := k) (v := .slice a_x77 (List.length x77) c_x77) En883 (by kernel_rfl) rfl (io.ro.ev wo81).reads had881 ((flat_get1 (fun _ _ => rfl) hx76).trans rfl) (by kernel_rfl) ?_
                    intro ac884 En885
                    refine any_two 11 17 (by kernel_rfl) ?_ ?_
                    · rintro _ rfl
                      refine op_str (d := some 22) (src := 22) (dst := 9) (e := 5) (ao := a_x77) (cap := c_x77) (p := List.length x77) (bs := x77) En885 (by kernel_rfl) rfl (by kernel_rfl) (by kernel_rfl) (by kernel_rfl) (i_x77.ev wo81).reads i_x77.nz ?_
                      intro ac886 En887
                      refine any_at 17 (by kernel_rfl) rfl ?_
                      refine op_str (d := some 28) (src := 22) (dst := 9) (e := 5) (ao := a_x80) (cap := c_x80) (p := List.length x80) (bs := x80) En887 (by kernel_rfl) rfl (by kernel_rfl) (by kernel_rfl) (by kernel_rfl) (i_x80.ev wo81).reads i_x80.nz ?_
                      intro ac888 En889
                      refine any_pureR (d := some 29) En889 (v := .bool (!(ByteArray.toList (bstr x77) == ByteArray.toList (bstr x80)))) 18 (by kernel_rfl) (by kernel_rfl) rfl ?_
                      intro ac890 En891
                      rw [Go.Dbr.bstr_eq x77 x80] at En891
                      refine any_pureR (d := some 30) En891 (v := .bool (!(x77 == x80))) 19 (by kernel_rfl) (by kernel_rfl) rfl ?_
                      intro ac892 En893
                      exact any_end (by kernel_rfl) ⟨En893.sub (by kernel_rfl), wo81.pick [0] (by kernel_rfl) (by decide)⟩
                    · rintro _ rfl
                      refine op_str (d := some 28) (src := 22) (dst := 9) (e := 5) (ao := a_x80) (cap := c_x80) (p := List.length x80) (bs := x80) En885 (by kernel_rfl) rfl (by kernel_rfl) (by kernel_rfl) (by kernel_rfl) (i_x80.ev wo81).reads i_x80.nz ?_
                      intro ac894 En895
                      refine any_at 11 (by kernel_rfl) rfl ?_
                      refine op_str (d := some 22) (src := 22) (dst := 9) (e := 5) (ao := a_x77) (cap := c_x77) (p := List.length x77) (bs := x77) En895 (by kernel_rfl) rfl (by kernel_rfl) (by kernel_rfl) (by kernel_rfl) (i_x77.ev wo81).reads i_x77.nz ?_
                      intro ac896 En897
                      refine any_pureR (d := some 29) En897 (v := .bool (!(ByteArray.toList (bstr x77) == ByteArray.toList (bstr x80)))) 18 (by kernel_rfl) (by kernel_rfl) rfl ?_
                      intro ac898 En899
                      rw [Go.Dbr.bstr_eq x77 x80] at En899
                      refine any_pureR (d := some 30) En899 (v := .bool (!(x77 == x80))) 19 (by kernel_rfl) (by kernel_rfl) rfl ?_
                      intro ac900 En901
                      exact any_end (by kernel_rfl) ⟨En901.sub (by kernel_rfl), wo81.pick [0] (by kernel_rfl) (by decide)⟩
                  · rintro _ rfl
                    refine op_str (d := some 28) (src := 22) (dst := 9) (e := 5) (ao := a_x80) (cap := c_x80) (p := List.length x80) (bs := x80) En883 (by kernel_rfl) rfl (by kernel_rfl) (by kernel_rfl) (by kernel_rfl) (i_x80.ev wo81).reads i_x80.nz ?_
                    intro ac902 En903
                    refine any_at 10 (by kernel_rfl) rfl ?_
                    refine op_loadf (d := some 21) (t := 22) (ad := adr880) (ao := ao) (ys := List.flatMap (fun s : Sl UInt8 => s.f) lo) (o := k) (v := .slice a_x77 (List.length x77) c_x77) En903 (by kernel_rfl) rfl (io.ro.ev wo81).reads had881 ((flat_get1 (fun _ _ => rfl) hx76).trans rfl) (by kernel_rfl) ?_
                    intro ac904 En905
                    refine any_at 11 (by kernel_rfl) rfl ?_
                    refine op_str (d := some 22) (src := 22) (dst := 9) (e := 5) (ao := a_x77) (cap := c_x77) (p := List.length x77) (bs := x77) En905 (by kernel_rfl) rfl (by kernel_rfl) (by kernel_rfl) (by kernel_rfl) (i_x77.ev wo81).reads i_x77.nz ?_
                    intro ac906 En907
                    refine any_pureR (d := some 29) En907 (v := .bool (!(ByteArray.toList (bstr x77) == ByteArray.toList (bstr x80)))) 18 (by kernel_rfl) (by kernel_rfl) rfl ?_
                    intro ac908 En909
                    rw [Go.Dbr.bstr_eq x77 x80] at En909
                    refine any_pureR (d := some 30) En909 (v := .bool (!(x77 == x80))) 19 (by kernel_rfl) (by kernel_rfl) rfl ?_
                    intro ac910 En911
                    exact any_end (by kernel_rfl) ⟨En911.sub (by kernel_rfl), wo81.pick [0] (by kernel_rfl) (by decide)⟩
                · rintro _ rfl
                  refine op_str (d := some 28) (src := 22) (dst := 9) (e := 5) (ao := a_x80) (cap := c_x80) (p := List.length x80) (bs := x80) En879 (by kernel_rfl) rfl (by kernel_rfl) (by kernel_rfl) (by kernel_rfl) (i_x80.ev wo81).reads i_x80.nz ?_
                  intro ac912 En913
                  refine any_at 9 (by kernel_rfl) rfl ?_
                  refine op_index (d := some 20) (t := 32) (e := 22) (sz := 1) (len := List.length lo) (cap := co) (j := k) (ao := ao) (k := .i64) (ix := ((k : Nat) : Int)) En913 (by kernel_rfl) io.nz (by kernel_rfl) (by kernel_rfl) (by omega) (by omega) (jo := k) (Nat.mul_one _) ?_
                  intro ac916 adr914 had915 En917
                  refine any_at 10 (by kernel_rfl) rfl ?_
                  refine op_loadf (d := some 21) (t := 22) (ad := adr914) (ao := ao) (ys := List.flatMap (fun s : Sl UInt8 => s.f) lo) (o := k) (v := .slice a_x77 (List.length x77) c_x77) En917 (by kernel_rfl) rfl (io.ro.ev wo81).reads had915 ((flat_get1 (fun _ _ => rfl) hx76).trans rfl) (by kernel_rfl) ?_
                  intro ac918 En919
                  refine any_at 11 (by kernel_rfl) rfl ?_
                  refine op_str (d := some 22) (src := 22) (dst := 9) (e := 5) (ao := a_x77) (cap := c_x77) (p := List.length x77) (bs := x77) En919 (by kernel_rfl) rfl (by kernel_rfl) (by kernel_rfl) (by kernel_rfl) (i_x77.ev wo81).reads i_x77.nz ?_
                  intro ac920 En921
                  refine any_pureR (d := some 29) En921 (v := .bool (!(ByteArray.toList (bstr x77) == ByteArray.toList (bstr x80)))) 18 (by kernel_rfl) (by kernel_rfl) rfl ?_
                  intro ac922 En923
                  rw [Go.Dbr.bstr_eq x77 x80] at En923
                  refine any_pureR (d := some 30) En923 (v := .bool (!(x77 == x80))) 19 (by kernel_rfl) (by kernel_rfl) rfl ?_
                  intro ac924 En925
                  exact any_end (by kernel_rfl) ⟨En925.sub (by kernel_rfl), wo81.pick [0] (by kernel_rfl) (by decide)⟩
              · rintro _ rfl
                refine op_str (d := some 28) (src := 22) (dst := 9) (e := 5) (ao := a_x80) (cap := c_x80) (p := List.length x80) (bs := x80) En877 (by kernel_rfl) rfl (by kernel_rfl) (by kernel_rfl) (by kernel_rfl) (i_x80.ev wo81).reads i_x80.nz ?_
                intro ac926 En927
                refine any_at 7 (by kernel_rfl) rfl ?_
                refine op_loadbox (d := some 18) (t := 32) (b := bk1) (off := 1) (k := 0) (v := .slice ao (List.length lo) co) En927 (by kernel_rfl) wo81 rfl rfl (by kernel_rfl) ?_
                intro ac928 En929
                refine any_at 9 (by kernel_rfl) rfl ?_
                refine op_index (d := some 20) (t := 32) (e := 22) (sz := 1) (len := List.length lo) (cap := co) (j := k) (ao := ao) (k := .i64) (ix := ((k : Nat) : Int)) En929 (by kernel_rfl) io.nz (by kernel_rfl) (by kernel_rfl) (by omega) (by omega) (jo := k) (Nat.mul_one _) ?_
                intro ac932 adr930 had931 En933
                refine any_at 10 (by kernel_rfl) rfl ?_
                refine op_loadf (d := some 21) (t := 22) (ad := adr930) (ao := ao) (ys := List.flatMap (fun s : Sl UInt8 => s.f) lo) (o := k) (v := .slice a_x77 (List.length x77) c_x77) En933 (by kernel_rfl) rfl (io.ro.ev wo81).reads had931 ((flat_get1 (fun _ _ => rfl) hx76).trans rfl) (by kernel_rfl) ?_
                intro ac934 En935
                refine any_at 11 (by kernel_rfl) rfl ?_
                refine op_str (d := some 22) (src := 22) (dst := 9) (e := 5) (ao := a_x77) (cap := c_x77) (p := List.length x77) (bs := x77) En935 (by kernel_rfl) rfl (by kernel_rfl) (by kernel_rfl) (by kernel_rfl) (i_x77.ev wo81).reads i_x77.nz ?_
                intro ac936 En937
                refine any_pureR (d := some 29) En937 (v := .bool (!(ByteArray.toList (bstr x77) == ByteArray.toList (bstr x80)))) 18 (by kernel_rfl) (by kernel_rfl) rfl ?_
                intro ac938 En939
                rw [Go.Dbr.bstr_eq x77 x80] at En939
                refine any_pureR (d := some 30) En939 (v := .bool (!(x77 == x80))) 19 (by kernel_rfl) (by kernel_rfl) rfl ?_
                intro ac940 En941
                exact any_end (by kernel_rfl) ⟨En941.sub (by kernel_rfl), wo81.pick [0] (by kernel_rfl) (by decide)⟩
      rintro ac942 wo943 ⟨En944, Hv945⟩
      refine then_normal ?_
      refine cond_at En944 (t := !(x77 == x80)) (by kernel_rfl) (fun hc946 => ?_) (fun hc946 => ?_)
      ·
        replace hc946 : x77 ≠ x80 := by simpa using hc946
        refine wp_seq ?_
        refine region_from ?_  -- region 5
        refine d_pures [(1, .pointer (some ⟨bk1, 0, none⟩)), (2, .int .i64 ((k : Nat) : Int)), (3, .int .i64 ((k : Nat) : Int))] [.int .i64 ((k : Nat) : Int), .int .i64 ((k : Nat) : Int)] 2 En944 (by kernel_rfl) (by kernel_rfl) rfl ?_
        intro ac947 En948
        refine from_end (by kernel_rfl) ?_
        refine then_normal ?_
        refine wp_ret ?_
        refine block_ret ?_
        refine then_ret ?_
        refine then_ret ?_
        refine block_ret ?_
        refine then_ret ?_
        refine d_ret1 (t := 2) (v := .int .i64 ((k : Nat) : Int)) En948 (by kernel_rfl) (by kernel_rfl) ?_
        have e : brkF lo lg = ((k : Nat) : Int) := firstAt_yes (by omega) (by rw [brk_at hx76 hx79]; first | exact hc946 | simpa using hc946) hn1
        exact ⟨by rw [e], Hv945.pick [] (by kernel_rfl) (by decide)⟩
      ·
        replace hc946 : ¬ (x77 ≠ x80) := by simpa using hc946
        refine wp_skip ?_
        refine block_normal ?_
        refine then_normal ?_
        refine region_from ?_  -- region 3
        refine d_pures [(1, .pointer (some ⟨bk1, 0, none⟩)), (3, .int .i64 ((k : Nat) : Int)), (10, .int .i64 (IntKind.wrap .i64 (((k : Nat) : Int) + (1 : Int))))] [.int .i64 ((k : Nat) : Int), .int .i64 (IntKind.wrap .i64 (((k : Nat) : Int) + (1 : Int)))] 2 En944 (by kernel_rfl) (by kernel_rfl) rfl ?_
        intro ac949 En950
        rw [Go.Dbr.wr64 (e := ((k : Nat) : Int) + (1 : Int)) (x := ((k + 1 : Nat) : Int)) (by omega) (by omega) (by omega)] at En950
        refine d_pures [(1, .pointer (some ⟨bk1, 0, none⟩)), (3, .int .i64 ((k + 1 : Nat) : Int))] [.int .i64 ((k + 1 : Nat) : Int)] 3 En950 (by kernel_rfl) (by kernel_rfl) rfl ?_
        intro ac951 En952
        refine from_end (by kernel_rfl) ?_
        refine then_normal ?_
        refine ⟨_, ⟨k + 1, rfl, En952.sub (by kernel_rfl), Hv945.pick [0] (by kernel_rfl) (by decide), by omega, firstAt_step hn1 (by rw [brk_at hx76 hx79]; first | exact hc946 | simpa using hc946)⟩, ?_⟩
        omega
  ·
    replace hc23 : ¬ (((k : Nat) : Int) < ((List.length lo : Nat) : Int)) := of_decide_eq_false hc23
    refine wp_exit ?_
    refine then_exit ?_
    refine then_exit ?_
    refine block_exit ?_
    refine then_normal ?_
    refine wp_seq ?_
    refine region_from ?_  -- region 6
    refine d_pures [(1, .pointer (some ⟨bk1, 0, none⟩)), (2, .int .i64 (-1)), (3, .int .i64 ((k : Nat) : Int))] [.int .i64 (-1)] 1 En22 (by kernel_rfl) (by kernel_rfl) rfl ?_
    intro ac953 En954
    refine from_end (by kernel_rfl) ?_
    refine then_normal ?_
    refine wp_ret ?_
    refine d_ret1 (t := 2) (v := .int .i64 (-1)) En954 (by kernel_rfl) (by kernel_rfl) ?_
    have hkk : k = List.length lo := by omega
    have e : brkF lo lg = -1 := firstAt_no (by rw [← hkk]; exact hn1)
    exact ⟨by rw [e], Hv15.pick [] (by kernel_rfl) (by decide)⟩

theorem has_ref (w : World) (ax : Option Addr) (nx cx : Nat) (lx : List (Sl UInt8)) (ex : nx = List.length lx) (ix : InS (fun s : Sl UInt8 => s.f) 24 (fun x : Sl UInt8 => InB w [] x.a x.c x.l) w [] ax cx lx) (ay : Option Addr) (ny cy : Nat) (ly : List UInt8) (ey : ny = List.length ly) (iy : InB w [] ay cy ly) : Calls Try.prog 34 #[.slice ax nx cx, .slice ay ny cy] w fun e w' => e = .returned (.bool (decide (ly ∈ textsOf lx))) ∧ Ev w [] w' [] := by
  subst ex ey
  have hs := ix.small
  have hc2 := ix.cap
  have hs2 := iy.small
  refine d_start [(0, .slice ax (List.length lx) cx), (1, .slice ay (List.length ly) cy)] 20 Go.Proofs.Try.func34 Go.Proofs.Try.ntmps34 rfl (by kernel_rfl) (by kernel_rfl) ?_
  intro act0 En0
  have Hv0 : Ev w [] w [] := Ev.refl (Heap.nil _)
  refine wp_seq ?_
  refine region_from ?_  -- region 0
  refine d_pures [(0, .slice ax (List.length lx) cx), (1, .slice ay (List.length ly) cy), (4, .bool false)] [.bool false] 1 En0 (by kernel_rfl) (by kernel_rfl) rfl ?_
  intro ac1 En2
  refine from_end (by kernel_rfl) ?_
  refine then_normal ?_
  refine wp_seq ?_
  refine wp_seq ?_
  refine region_from ?_  -- region 1
  refine d_pures [(0, .slice ax (List.length lx) cx), (1, .slice ay (List.length ly) cy), (4, .bool false), (5, .int .i64 0)] [.int .i64 0] 1 En2 (by kernel_rfl) (by kernel_rfl) rfl ?_
  intro ac3 En4
  refine from_end (by kernel_rfl) ?_
  refine then_normal ?_
  refine wp_block ?_
  refine loop_m (fun ms5 ac wo => ∃ (k : Nat), ms5 = (List.length lx - k : Nat) ∧ Env ac 20 [(0, .slice ax (List.length lx) cx), (1, .slice ay (List.length ly) cy), (5, .int .i64 ((k : Nat) : Int))] ∧ Ev w [] wo [] ∧ (k ≤ List.length lx) ∧ (¬ (ly ∈ List.take k (textsOf lx)))) ⟨_, 0, rfl, En4.sub (by kernel_rfl), Hv0.pick [] (by kernel_rfl) (by decide), by omega, by simp⟩ ?_
  rintro mm11 ac7 wo8 ⟨k, rfl, En9, Hv10, hk, hn1⟩
  refine wp_seq ?_
  refine wp_seq ?_
  refine region_from ?_  -- region 2
  refine d_pures [(0, .slice ax (List.length lx) cx), (1, .slice ay (List.length ly) cy), (5, .int .i64 ((k : Nat) : Int)), (9, .bool (decide (((k : Nat) : Int) < ((List.length lx : Nat) : Int))))] [.int .i64 ((k : Nat) : Int), .slice ax (List.length lx) cx, .int .i64 ((List.length lx : Nat) : Int), .bool (decide (((k : Nat) : Int) < ((List.length lx : Nat) : Int)))] 4 En9 (by kernel_rfl) (by kernel_rfl) rfl ?_
  intro ac12 En13
  refine from_end (by kernel_rfl) ?_
  refine then_normal ?_
  refine cond_at En13 (t := decide (((k : Nat) : Int) < ((List.length lx : Nat) : Int))) (by kernel_rfl) (fun hc14 => ?_) (fun hc14 => ?_)
  ·
    replace hc14 : ((k : Nat) : Int) < ((List.length lx : Nat) : Int) := of_decide_eq_true hc14
    refine wp_skip ?_
    refine then_normal ?_
    refine wp_seq ?_
    refine wp_block ?_
    refine wp_seq ?_
    have hb15 : k < List.length lx := by omega
    obtain ⟨⟨a_x17, c_x17, x17⟩, hx16⟩ : ∃ x, (lx)[k]? = some x := ⟨_, List.getElem?_eq_getElem hb15⟩
    obtain i_x17 := ix.each _ (List.mem_of_getElem? hx16)
    replace i_x17 : InB w [] a_x17 c_x17 x17 := i_x17
    refine region_cut (F := fun ac wo => Env ac 20 [(0, .slice ax (List.length lx) cx), (1, .slice ay (List.length ly) cy), (5, .int .i64 ((k : Nat) : Int)), (19, .bool (x17 == ly))] ∧ Ev w [] wo []) ?_ ?_
    ·
      refine draw_any (by kernel_rfl) 8 (by kernel_rfl) ?_  -- region 4
      have wo18 := Hv10.trans (Ev.drew Hv10.heap)
      refine any_pureR (d := some 12) En13 (v := .slice ax (List.length lx) cx) 0 (by kernel_rfl) (by kernel_rfl) rfl ?_
      intro ac19 En20
      refine any_pureR (d := some 13) En20 (v := .int .i64 ((k : Nat) : Int)) 1 (by kernel_rfl) (by kernel_rfl) rfl ?_
      intro ac21 En22
      refine any_pureR (d := some 17) En22 (v := .slice ay (List.length ly) cy) 5 (by kernel_rfl) (by kernel_rfl) rfl ?_
      intro ac23 En24
      refine any_two 2 6 (by kernel_rfl) ?_ ?_
      · rintro _ rfl
        refine op_index (d := some 14) (t := 32) (e := 22) (sz := 1) (len := List.length lx) (cap := cx) (j := k) (ao := ax) (k := .i64) (ix := ((k : Nat) : Int)) En24 (by kernel_rfl) ix.nz (by kernel_rfl) (by kernel_rfl) (by omega) (by omega) (jo := k) (Nat.mul_one _) ?_
        intro ac27 adr25 had26 En28
        refine any_two 3 6 (by kernel_rfl) ?_ ?_
        · rintro _ rfl
          refine op_loadf (d := some 15) (t := 22) (ad := adr25) (ao := ax) (ys := List.flatMap (fun s : Sl UInt8 => s.f) lx) (o := k) (v := .slice a_x17 (List.length x17) c_x17) En28 (by kernel_rfl) rfl (ix.ro.ev wo18).reads had26 ((flat_get1 (fun _ _ => rfl) hx16).trans rfl) (by kernel_rfl) ?_
          intro ac29 En30
          refine any_two 4 6 (by kernel_rfl) ?_ ?_
          · rintro _ rfl
            refine op_str (d := some 16) (src := 22) (dst := 9) (e := 5) (ao := a_x17) (cap := c_x17) (p := List.length x17) (bs := x17) En30 (by kernel_rfl) rfl (by kernel_rfl) (by kernel_rfl) (by kernel_rfl) (i_x17.ev wo18).reads i_x17.nz ?_
            intro ac31 En32
            refine any_at 6 (by kernel_rfl) rfl ?_
            refine op_str (d := some 18) (src := 22) (dst := 9) (e := 5) (ao := ay) (cap := cy) (p := List.length ly) (bs := ly) En32 (by kernel_rfl) rfl (by kernel_rfl) (by kernel_rfl) (by kernel_rfl) (iy.ev wo18).reads iy.nz ?_
            intro ac33 En34
            refine any_pureR (d := some 19) En34 (v := .bool (ByteArray.toList (bstr x17) == ByteArray.toList (bstr ly))) 7 (by kernel_rfl) (by kernel_rfl) rfl ?_
            intro ac35 En36
            rw [Go.Dbr.bstr_eq x17 ly] at En36
            exact any_end (by kernel_rfl) ⟨En36.sub (by kernel_rfl), wo18.pick [] (by kernel_rfl) (by decide)⟩
          · rintro _ rfl
            refine op_str (d := some 18) (src := 22) (dst := 9) (e := 5) (ao := ay) (cap := cy) (p := List.length ly) (bs := ly) En30 (by kernel_rfl) rfl (by kernel_rfl) (by kernel_rfl) (by kernel_rfl) (iy.ev wo18).reads iy.nz ?_
            intro ac37 En38
            refine any_at 4 (by kernel_rfl) rfl ?_
            refine op_str (d := some 16) (src := 22) (dst := 9) (e := 5) (ao := a_x17) (cap := c_x17) (p := List.length x17) (bs := x17) En38 (by kernel_rfl) rfl (by kernel_rfl) (by kernel_rfl) (by kernel_rfl) (i_x17.ev wo18).reads i_x17.nz ?_
            intro ac39 En40
            refine any_pureR (d := some 19) En40 (v := .bool (ByteArray.toList (bstr x17) == ByteArray.toList (bstr ly))) 7 (by kernel_rfl) (by kernel_rfl) rfl ?_
            intro ac41 En42
            rw [Go.Dbr.bstr_eq x17 ly] at En42
            exact any_end (by kernel_rfl) ⟨En42.sub (by kernel_rfl), wo18.pick [] (by kernel_rfl) (by decide)⟩
        · rintro _ rfl
          refine op_str (d := some 18) (src := 22) (dst := 9) (e := 5) (ao := ay) (cap := cy) (p := List.length ly) (bs := ly) En28 (by kernel_rfl) rfl (by kernel_rfl) (by kernel_rfl) (by kernel_rfl) (iy.ev wo18).reads iy.nz ?_
          intro ac43 En44
          refine any_at 3 (by kernel_rfl) rfl ?_
          refine op_loadf (d := some 15) (t := 22) (ad := adr25) (ao := ax) (ys := List.flatMap (fun s : Sl UInt8 => s.f) lx) (o := k) (v := .slice a_x17 (List.length x17) c_x17) En44 (by kernel_rfl) rfl (ix.ro.ev wo18).reads had26 ((flat_get1 (fun _ _ => rfl) hx16).trans rfl) (by kernel_rfl) ?_
          intro ac45 En46
          refine any_at 4 (by kernel_rfl) rfl ?_
          refine op_str (d := some 16) (src := 22) (dst := 9) (e := 5) (ao := a_x17) (cap := c_x17) (p := List.length x17) (bs := x17) En46 (by kernel_rfl) rfl (by kernel_rfl) (by kernel_rfl) (by kernel_rfl) (i_x17.ev wo18).reads i_x17.nz ?_
          intro ac47 En48
          refine any_pureR (d := some 19) En48 (v := .bool (ByteArray.toList (bstr x17) == ByteArray.toList (bstr ly))) 7 (by kernel_rfl) (by kernel_rfl) rfl ?_
          intro ac49 En50
          rw [Go.Dbr.bstr_eq x17 ly] at En50
          exact any_end (by kernel_rfl) ⟨En50.sub (by kernel_rfl), wo18.pick [] (by kernel_rfl) (by decide)⟩
      · rintro _ rfl
        refine op_str (d := some 18) (src := 22) (dst := 9) (e := 5) (ao := ay) (cap := cy) (p := List.length ly) (bs := ly) En24 (by kernel_rfl) rfl (by kernel_rfl) (by kernel_rfl) (by kernel_rfl) (iy.ev wo18).reads iy.nz ?_
        intro ac51 En52
        refine any_at 2 (by kernel_rfl) rfl ?_
        refine op_index (d := some 14) (t := 32) (e := 22) (sz := 1) (len := List.length lx) (cap := cx) (j := k) (ao := ax) (k := .i64) (ix := ((k : Nat) : Int)) En52 (by kernel_rfl) ix.nz (by kernel_rfl) (by kernel_rfl) (by omega) (by omega) (jo := k) (Nat.mul_one _) ?_
        intro ac55 adr53 had54 En56
        refine any_at 3 (by kernel_rfl) rfl ?_
        refine op_loadf (d := some 15) (t := 22) (ad := adr53) (ao := ax) (ys := List.flatMap (fun s : Sl UInt8 => s.f) lx) (o := k) (v := .slice a_x17 (List.length x17) c_x17) En56 (by kernel_rfl) rfl (ix.ro.ev wo18).reads had54 ((flat_get1 (fun _ _ => rfl) hx16).trans rfl) (by kernel_rfl) ?_
        intro ac57 En58
        refine any_at 4 (by kernel_rfl) rfl ?_
        refine op_str (d := some 16) (src := 22) (dst := 9) (e := 5) (ao := a_x17) (cap := c_x17) (p := List.length x17) (bs := x17) En58 (by kernel_rfl) rfl (by kernel_rfl) (by kernel_rfl) (by kernel_rfl) (i_x17.ev wo18).reads i_x17.nz ?_
        intro ac59 En60
        refine any_pureR (d := some 19) En60 (v := .bool (ByteArray.toList (bstr x17) == ByteArray.toList (bstr ly))) 7 (by kernel_rfl) (by kernel_rfl) rfl ?_
        intro ac61 En62
        rw [Go.Dbr.bstr_eq x17 ly] at En62
        exact any_end (by kernel_rfl) ⟨En62.sub (by kernel_rfl), wo18.pick [] (by kernel_rfl) (by decide)⟩
    rintro ac63 wo64 ⟨En65, Hv66⟩
    refine then_normal ?_
    refine cond_at En65 (t := x17 == ly) (by kernel_rfl) (fun hc67 => ?_) (fun hc67 => ?_)
    ·
      replace hc67 : x17 = ly := eq_of_beq hc67
      refine wp_seq ?_
      refine region_from ?_  -- region 5
      refine d_pures [(0, .slice ax (List.length lx) cx), (1, .slice ay (List.length ly) cy), (4, .bool true), (5, .int .i64 ((k : Nat) : Int))] [.bool true] 1 En65 (by kernel_rfl) (by kernel_rfl) rfl ?_
      intro ac68 En69
      refine from_end (by kernel_rfl) ?_
      refine then_normal ?_
      refine wp_ret ?_
      refine block_ret ?_
      refine then_ret ?_
      refine then_ret ?_
      refine block_ret ?_
      refine then_ret ?_
      refine d_ret1 (t := 4) (v := .bool true) En69 (by kernel_rfl) (by kernel_rfl) ?_
      have e : decide (ly ∈ textsOf lx) = true := decide_eq_true (mem_texts.2 ⟨_, _, hx16, hc67⟩)
      exact ⟨by rw [e], Hv66.pick [] (by kernel_rfl) (by decide)⟩
    ·
      replace hc67 : ¬ (x17 = ly) := ne_of_beq_false hc67
      refine wp_skip ?_
      refine block_normal ?_
      refine then_normal ?_
      refine region_from ?_  -- region 3
      refine d_pures [(0, .slice ax (List.length lx) cx), (1, .slice ay (List.length ly) cy), (5, .int .i64 ((k : Nat) : Int)), (11, .int .i64 (IntKind.wrap .i64 (((k : Nat) : Int) + (1 : Int))))] [.int .i64 ((k : Nat) : Int), .int .i64 (IntKind.wrap .i64 (((k : Nat) : Int) + (1 : Int)))] 2 En65 (by kernel_rfl) (by kernel_rfl) rfl ?_
      intro ac70 En71
      rw [Go.Dbr.wr64 (e := ((k : Nat) : Int) + (1 : Int)) (x := ((k + 1 : Nat) : Int)) (by omega) (by omega) (by omega)] at En71
      refine d_pures [(0, .slice ax (List.length lx) cx), (1, .slice ay (List.length ly) cy), (5, .int .i64 ((k + 1 : Nat) : Int))] [.int .i64 ((k + 1 : Nat) : Int)] 3 En71 (by kernel_rfl) (by kernel_rfl) rfl ?_
      intro ac72 En73
      refine from_end (by kernel_rfl) ?_
      refine then_normal ?_
      refine ⟨_, ⟨k + 1, rfl, En73.sub (by kernel_rfl), Hv66.pick [] (by kernel_rfl) (by decide), by omega, by rw [texts_take hx16]; intro hq; rcases hq with hh | hh; exact hc67 hh.symm; exact hn1 hh⟩, ?_⟩
      omega
  ·
    replace hc14 : ¬ (((k : Nat) : Int) < ((List.length lx : Nat) : Int)) := of_decide_eq_false hc14
    refine wp_exit ?_
    refine then_exit ?_
    refine then_exit ?_
    refine block_exit ?_
    refine then_normal ?_
    refine wp_seq ?_
    refine region_from ?_  -- region 6
    refine d_pures [(0, .slice ax (List.length lx) cx), (1, .slice ay (List.length ly) cy), (4, .bool false), (5, .int .i64 ((k : Nat) : Int))] [.bool false] 1 En13 (by kernel_rfl) (by kernel_rfl) rfl ?_
    intro ac74 En75
    refine from_end (by kernel_rfl) ?_
    refine then_normal ?_
    refine wp_ret ?_
    refine d_ret1 (t := 4) (v := .bool false) En75 (by kernel_rfl) (by kernel_rfl) ?_
    have hkk : k = List.length lx := by omega
    have e : decide (ly ∈ textsOf lx) = false := decide_eq_false (by intro hh; apply hn1; rw [hkk, List.take_of_length_le (by simp [textsOf])]; exact hh)
    exact ⟨by rw [e], Hv10.pick [] (by kernel_rfl) (by decide)⟩

theorem forged_ref (w : World) (ag : Option Addr) (ng cg : Nat) (lg : List (Sl UInt8)) (eg : ng = List.length lg) (ig : InS (fun s : Sl UInt8 => s.f) 24 (fun x : Sl UInt8 => InB w [] x.a x.c x.l) w [] ag cg lg) (ao : Option Addr) (no co : Nat) (lo : List (Sl UInt8)) (eo : no = List.length lo) (io : InS (fun s : Sl UInt8 => s.f) 24 (fun x : Sl UInt8 => InB w [] x.a x.c x.l) w [] ao co lo) : Calls Try.prog 14 #[.slice ag ng cg, .slice ao no co] w fun e w' => e = .returned (.int .i64 (forgF lg lo)) ∧ Ev w [] w' [] := by
  subst eo eg
  have hs1 := io.small
  have hs2 := ig.small
  have hc1 := io.cap
  have hc2 := ig.cap
  refine d_start [(0, .slice ag (List.length lg) cg), (1, .slice ao (List.length lo) co)] 22 Go.Proofs.Try.func14 Go.Proofs.Try.ntmps14 rfl (by kernel_rfl) (by kernel_rfl) ?_
  intro act0 En0
  have Hv0 : Ev w [] w [] := Ev.refl (Heap.nil _)
  refine wp_seq ?_
  refine region_from ?_  -- region 0
  refine d_pures [(0, .slice ag (List.length lg) cg), (1, .slice ao (List.length lo) co), (4, .int .i64 0)] [.int .i64 0] 1 En0 (by kernel_rfl) (by kernel_rfl) rfl ?_
  intro ac1 En2
  refine from_end (by kernel_rfl) ?_
  refine then_normal ?_
  refine wp_seq ?_
  refine wp_seq ?_
  refine region_from ?_  -- region 1
  refine d_pures [(0, .slice ag (List.length lg) cg), (1, .slice ao (List.length lo) co), (4, .int .i64 0), (5, .int .i64 0)] [.int .i64 0] 1 En2 (by kernel_rfl) (by kernel_rfl) rfl ?_
  intro ac3 En4
  refine from_end (by kernel_rfl) ?_
  refine then_normal ?_
  refine wp_block ?_
  refine loop_m (fun ms5 ac wo => ∃ (k : Nat), ms5 = (List.length lo - k : Nat) ∧ Env ac 22 [(0, .slice ag (List.length lg) cg), (1, .slice ao (List.length lo) co), (5, .int .i64 ((k : Nat) : Int))] ∧ Ev w [] wo [] ∧ (k ≤ List.length lo) ∧ (∀ j, j < k → forgB lg lo j = false)) ⟨_, 0, rfl, En4.sub (by kernel_rfl), Hv0.pick [] (by kernel_rfl) (by decide), by omega, fun j hj => by omega⟩ ?_
  rintro mm11 ac7 wo8 ⟨k, rfl, En9, Hv10, hk, hn1⟩
  refine wp_seq ?_
  refine wp_seq ?_
  refine region_from ?_  -- region 2
  refine d_pures [(0, .slice ag (List.length lg) cg), (1, .slice ao (List.length lo) co), (5, .int .i64 ((k : Nat) : Int)), (10, .bool (decide (((k : Nat) : Int) < ((List.length lo : Nat) : Int))))] [.int .i64 ((k : Nat) : Int), .slice ao (List.length lo) co, .int .i64 ((List.length lo : Nat) : Int), .bool (decide (((k : Nat) : Int) < ((List.length lo : Nat) : Int)))] 4 En9 (by kernel_rfl) (by kernel_rfl) rfl ?_
  intro ac12 En13
  refine from_end (by kernel_rfl) ?_
  refine then_normal ?_
  refine cond_at En13 (t := decide (((k : Nat) : Int) < ((List.length lo : Nat) : Int))) (by kernel_rfl) (fun hc14 => ?_) (fun hc14 => ?_)
  ·
    replace hc14 : ((k : Nat) : Int) < ((List.length lo : Nat) : Int) := of_decide_eq_true hc14
    refine wp_skip ?_
    refine then_normal ?_
    refine wp_seq ?_
    refine wp_block ?_
    refine wp_seq ?_
    refine region_from ?_  -- region 4
    refine d_pures [(0, .slice ag (List.length lg) cg), (1, .slice ao (List.length lo) co), (5, .int .i64 ((k : Nat) : Int)), (13, .slice ag (List.length lg) cg), (14, .slice ao (List.length lo) co), (15, .int .i64 ((k : Nat) : Int))] [.slice ag (List.length lg) cg, .slice ao (List.length lo) co, .int .i64 ((k : Nat) : Int)] 3 En13 (by kernel_rfl) (by kernel_rfl) rfl ?_
    intro ac15 En16
    refine from_op (by kernel_rfl) ?_
    refine op_index (d := some 16) (t := 32) (e := 22) (sz := 1) (len := List.length lo) (cap := co) (j := k) (ao := ao) (k := .i64) (ix := ((k : Nat) : Int)) En16 (by kernel_rfl) io.nz (by kernel_rfl) (by kernel_rfl) (by omega) (by omega) (jo := k) (Nat.mul_one _) ?_
    intro ac19 adr17 had18 En20
    have hb21 : k < List.length lo := by omega
    obtain ⟨⟨a_x23, c_x23, x23⟩, hx22⟩ : ∃ x, (lo)[k]? = some x := ⟨_, List.getElem?_eq_getElem hb21⟩
    obtain i_x23 := io.each _ (List.mem_of_getElem? hx22)
    replace i_x23 : InB w [] a_x23 c_x23 x23 := i_x23
    refine from_op (by kernel_rfl) ?_
    refine op_loadf (d := some 17) (t := 22) (ad := adr17) (ao := ao) (ys := List.flatMap (fun s : Sl UInt8 => s.f) lo) (o := k) (v := .slice a_x23 (List.length x23) c_x23) En20 (by kernel_rfl) rfl (io.ro.ev Hv10).reads had18 ((flat_get1 (fun _ _ => rfl) hx22).trans rfl) (by kernel_rfl) ?_
    intro ac24 En25
    refine from_op (by kernel_rfl) ?_
    have hM26 : Heap wo8 [] := Hv10.heap.pick [] (by kernel_rfl) (by decide)
    refine op_call (d := some 18) (f := 34) (args := #[.slice ag (List.length lg) cg, .slice a_x23 (List.length x23) c_x23]) En25 (by kernel_rfl) ((has_ref _ ag (List.length lg) cg lg (by first | rfl | (simp; done) | (simp; omega) | omega) (ig.go Hv10 [] (by kernel_rfl) (fun _ h => (InB.ev h Hv10).pick [] (by kernel_rfl))) a_x23 (List.length x23) c_x23 x23 (by first | rfl | (simp; done) | (simp; omega) | omega) ((i_x23.ev Hv10).pick [] (by kernel_rfl))).mono ?_)
    rintro _ wo28 ⟨rfl, he31⟩
    refine ⟨_, rfl, ?_⟩
    intro ac27 En29
    have Hv30 : Ev w [] wo28 [] := Hv10.trans (Ev.call (R := []) Hv10.heap [] (by kernel_rfl) (by decide) he31)
    clear hM26 he31
    refine d_pures [(0, .slice ag (List.length lg) cg), (1, .slice ao (List.length lo) co), (5, .int .i64 ((k : Nat) : Int)), (6, .bool (decide (x23 ∈ textsOf lg)))] [.bool (decide (x23 ∈ textsOf lg))] 7 En29 (by kernel_rfl) (by kernel_rfl) rfl ?_
    intro ac32 En33
    refine from_end (by kernel_rfl) ?_
    refine then_normal ?_
    refine wp_seq ?_
    refine region_from ?_  -- region 5
    refine d_pures [(0, .slice ag (List.length lg) cg), (1, .slice ao (List.length lo) co), (5, .int .i64 ((k : Nat) : Int)), (20, .bool (!(decide (x23 ∈ textsOf lg))))] [.bool (decide (x23 ∈ textsOf lg)), .bool (!(decide (x23 ∈ textsOf lg)))] 2 En33 (by kernel_rfl) (by kernel_rfl) rfl ?_
    intro ac34 En35
    refine from_end (by kernel_rfl) ?_
    refine then_normal ?_
    refine cond_at En35 (t := !(decide (x23 ∈ textsOf lg))) (by kernel_rfl) (fun hc36 => ?_) (fun hc36 => ?_)
    ·
      replace hc36 : ¬ (x23 ∈ textsOf lg) := by simpa using hc36
      refine wp_seq ?_
      refine region_from ?_  -- region 6
      refine d_pures [(0, .slice ag (List.length lg) cg), (1, .slice ao (List.length lo) co), (4, .int .i64 ((k : Nat) : Int)), (5, .int .i64 ((k : Nat) : Int))] [.int .i64 ((k : Nat) : Int), .int .i64 ((k : Nat) : Int)] 2 En35 (by kernel_rfl) (by kernel_rfl) rfl ?_
      intro ac37 En38
      refine from_end (by kernel_rfl) ?_
      refine then_normal ?_
      refine wp_ret ?_
      refine block_ret ?_
      refine then_ret ?_
      refine then_ret ?_
      refine block_ret ?_
      refine then_ret ?_
      refine d_ret1 (t := 4) (v := .int .i64 ((k : Nat) : Int)) En38 (by kernel_rfl) (by kernel_rfl) ?_
      have e : forgF lg lo = ((k : Nat) : Int) := firstAt_yes (by omega) (by unfold forgB; rw [texts_at hx22]; simpa using hc36) hn1
      exact ⟨by rw [e], Hv30.pick [] (by kernel_rfl) (by decide)⟩
    ·
      replace hc36 : x23 ∈ textsOf lg := by simpa using hc36
      refine wp_skip ?_
      refine block_normal ?_
      refine then_normal ?_
      refine region_from ?_  -- region 3
      refine d_pures [(0, .slice ag (List.length lg) cg), (1, .slice ao (List.length lo) co), (5, .int .i64 ((k : Nat) : Int)), (12, .int .i64 (IntKind.wrap .i64 (((k : Nat) : Int) + (1 : Int))))] [.int .i64 ((k : Nat) : Int), .int .i64 (IntKind.wrap .i64 (((k : Nat) : Int) + (1 : Int)))] 2 En35 (by kernel_rfl) (by kernel_rfl) rfl ?_
      intro ac39 En40
      rw [Go.Dbr.wr64 (e := ((k : Nat) : Int) + (1 : Int)) (x := ((k + 1 : Nat) : Int)) (by omega) (by omega) (by omega)] at En40
      refine d_pures [(0, .slice ag (List.length lg) cg), (1, .slice ao (List.length lo) co), (5, .int .i64 ((k + 1 : Nat) : Int))] [.int .i64 ((k + 1 : Nat) : Int)] 3 En40 (by kernel_rfl) (by kernel_rfl) rfl ?_
      intro ac41 En42
      refine from_end (by kernel_rfl) ?_
      refine then_normal ?_
      refine ⟨_, ⟨k + 1, rfl, En42.sub (by kernel_rfl), Hv30.pick [] (by kernel_rfl) (by decide), by omega, firstAt_step hn1 (by unfold forgB; rw [texts_at hx22]; simpa using hc36)⟩, ?_⟩
      omega
  ·
    replace hc14 : ¬ (((k : Nat) : Int) < ((List.length lo : Nat) : Int)) := of_decide_eq_false hc14
    refine wp_exit ?_
    refine then_exit ?_
    refine then_exit ?_
    refine block_exit ?_
    refine then_normal ?_
    refine wp_seq ?_
    refine region_from ?_  -- region 7
    refine d_pures [(0, .slice ag (List.length lg) cg), (1, .slice ao (List.length lo) co), (4, .int .i64 (-1)), (5, .int .i64 ((k : Nat) : Int))] [.int .i64 (-1)] 1 En13 (by kernel_rfl) (by kernel_rfl) rfl ?_
    intro ac43 En44
    refine from_end (by kernel_rfl) ?_
    refine then_normal ?_
    refine wp_ret ?_
    refine d_ret1 (t := 4) (v := .int .i64 (-1)) En44 (by kernel_rfl) (by kernel_rfl) ?_
    have hkk : k = List.length lo := by omega
    have e : forgF lg lo = -1 := firstAt_no (by rw [← hkk]; exact hn1)
    exact ⟨by rw [e], Hv10.pick [] (by kernel_rfl) (by decide)⟩

theorem repeats_ref (w : World) (ax : Option Addr) (nx cx : Nat) (lx : List (Sl UInt8)) (ex : nx = List.length lx) (ix : InS (fun s : Sl UInt8 => s.f) 24 (fun x : Sl UInt8 => InB w [] x.a x.c x.l) w [] ax cx lx) : Calls Try.prog 16 #[.slice ax nx cx] w fun e w' => e = .returned (.int .i64 (repF lx)) ∧ Ev w [] w' [] := by
  subst ex
  have hs := ix.small
  have hc2 := ix.cap
  refine d_start [(0, .slice ax (List.length lx) cx)] 21 Go.Proofs.Try.func16 Go.Proofs.Try.ntmps16 rfl (by kernel_rfl) (by kernel_rfl) ?_
  intro act0 En0
  have Hv0 : Ev w [] w [] := Ev.refl (Heap.nil _)
  refine wp_seq ?_
  refine region_from ?_  -- region 0
  refine d_pures [(0, .slice ax (List.length lx) cx), (2, .int .i64 0)] [.int .i64 0] 1 En0 (by kernel_rfl) (by kernel_rfl) rfl ?_
  intro ac1 En2
  refine from_end (by kernel_rfl) ?_
  refine then_normal ?_
  refine wp_seq ?_
  refine wp_seq ?_
  refine region_from ?_  -- region 1
  refine d_pures [(0, .slice ax (List.length lx) cx), (2, .int .i64 0), (3, .int .i64 0)] [.int .i64 0] 1 En2 (by kernel_rfl) (by kernel_rfl) rfl ?_
  intro ac3 En4
  refine from_end (by kernel_rfl) ?_
  refine then_normal ?_
  refine wp_block ?_
  refine loop_m (fun ms5 ac wo => ∃ (k : Nat), ms5 = (List.length lx - k : Nat) ∧ Env ac 21 [(0, .slice ax (List.length lx) cx), (3, .int .i64 ((k : Nat) : Int))] ∧ Ev w [] wo [] ∧ (k ≤ List.length lx) ∧ (∀ j, j < k → (fun i => decide ((textsOf lx).getD i [] ∈ (textsOf lx).take i)) j = false)) ⟨_, 0, rfl, En4.sub (by kernel_rfl), Hv0.pick [] (by kernel_rfl) (by decide), by omega, fun j hj => by omega⟩ ?_
  rintro mm11 ac7 wo8 ⟨k, rfl, En9, Hv10, hk, hn1⟩
  refine wp_seq ?_
  refine wp_seq ?_
  refine region_from ?_  -- region 2
  refine d_pures [(0, .slice ax (List.length lx) cx), (3, .int .i64 ((k : Nat) : Int)), (8, .bool (decide (((k : Nat) : Int) < ((List.length lx : Nat) : Int))))] [.int .i64 ((k : Nat) : Int), .slice ax (List.length lx) cx, .int .i64 ((List.length lx : Nat) : Int), .bool (decide (((k : Nat) : Int) < ((List.length lx : Nat) : Int)))] 4 En9 (by kernel_rfl) (by kernel_rfl) rfl ?_
  intro ac12 En13
  refine from_end (by kernel_rfl) ?_
  refine then_normal ?_
  refine cond_at En13 (t := decide (((k : Nat) : Int) < ((List.length lx : Nat) : Int))) (by kernel_rfl) (fun hc14 => ?_) (fun hc14 => ?_)
  ·
    replace hc14 : ((k : Nat) : Int) < ((List.length lx : Nat) : Int) := of_decide_eq_true hc14
    refine wp_skip ?_
    refine then_normal ?_
    refine wp_seq ?_
    refine wp_block ?_
    refine wp_seq ?_
    have hb15 : k < List.length lx := by omega
    obtain ⟨⟨a_x17, c_x17, x17⟩, hx16⟩ : ∃ x, (lx)[k]? = some x := ⟨_, List.getElem?_eq_getElem hb15⟩
    obtain i_x17 := ix.each _ (List.mem_of_getElem? hx16)
    replace i_x17 : InB w [] a_x17 c_x17 x17 := i_x17
    refine region_cut (F := fun ac wo => Env ac 21 [(0, .slice ax (List.length lx) cx), (3, .int .i64 ((k : Nat) : Int)), (4, .bool (decide (x17 ∈ textsOf (List.take k lx))))] ∧ Ev w [] wo []) ?_ ?_
    ·
      refine draw_any (by kernel_rfl) 9 (by kernel_rfl) ?_  -- region 4
      have wo18 := Hv10.trans (Ev.drew Hv10.heap)
      refine any_pureR (d := some 11) En13 (v := .slice ax (List.length lx) cx) 0 (by kernel_rfl) (by kernel_rfl) rfl ?_
      intro ac19 En20
      refine any_pureR (d := some 12) En20 (v := .int .i64 ((k : Nat) : Int)) 1 (by kernel_rfl) (by kernel_rfl) rfl ?_
      intro ac21 En22
      refine any_pureR (d := some 14) En22 (v := .slice ax (List.length lx) cx) 3 (by kernel_rfl) (by kernel_rfl) rfl ?_
      intro ac23 En24
      refine any_pureR (d := some 15) En24 (v := .int .i64 ((k : Nat) : Int)) 4 (by kernel_rfl) (by kernel_rfl) rfl ?_
      intro ac25 En26
      refine any_two 2 5 (by kernel_rfl) ?_ ?_
      · rintro _ rfl
        refine op_slice0 (d := some 13) (t := 32) (e := 22) (sz := 1) (len := List.length lx) (cap := cx) (hi := k) (ao := ax) (lov := none) (hiv := (some (.int .i64 ((k : Nat) : Int)))) En26 (by kernel_rfl) (by kernel_rfl) (by kernel_rfl) (by omega) (.inl ⟨rfl, rfl⟩) (.inr ⟨.i64, rfl⟩) ?_
        intro ac27 En28
        refine any_at 5 (by kernel_rfl) rfl ?_
        refine op_index (d := some 16) (t := 32) (e := 22) (sz := 1) (len := List.length lx) (cap := cx) (j := k) (ao := ax) (k := .i64) (ix := ((k : Nat) : Int)) En28 (by kernel_rfl) ix.nz (by kernel_rfl) (by kernel_rfl) (by omega) (by omega) (jo := k) (Nat.mul_one _) ?_
        intro ac31 adr29 had30 En32
        refine any_at 6 (by kernel_rfl) rfl ?_
        refine op_loadf (d := some 17) (t := 22) (ad := adr29) (ao := ax) (ys := List.flatMap (fun s : Sl UInt8 => s.f) lx) (o := k) (v := .slice a_x17 (List.length x17) c_x17) En32 (by kernel_rfl) rfl (ix.ro.ev wo18).reads had30 ((flat_get1 (fun _ _ => rfl) hx16).trans rfl) (by kernel_rfl) ?_
        intro ac33 En34
        refine any_at 7 (by kernel_rfl) rfl ?_
        have hM35 : Heap wo8.drew [] := wo18.heap.pick [] (by kernel_rfl) (by decide)
        refine op_call (d := some 18) (f := 34) (args := #[.slice ax k cx, .slice a_x17 (List.length x17) c_x17]) En34 (by kernel_rfl) ((has_ref _ ax k cx (List.take k lx) (by first | rfl | (simp; done) | (simp; omega) | omega) ((ix.take k).go wo18 [] (by kernel_rfl) (fun _ h => (InB.ev h wo18).pick [] (by kernel_rfl))) a_x17 (List.length x17) c_x17 x17 (by first | rfl | (simp; done) | (simp; omega) | omega) ((i_x17.ev wo18).pick [] (by kernel_rfl))).mono ?_)
        rintro _ wo37 ⟨rfl, he40⟩
        refine ⟨_, rfl, ?_⟩
        intro ac36 En38
        have Hv39 : Ev w [] wo37 [] := wo18.trans (Ev.call (R := []) wo18.heap [] (by kernel_rfl) (by decide) he40)
        clear hM35 he40
        refine any_pureR (d := some 4) En38 (v := .bool (decide (x17 ∈ textsOf (List.take k lx)))) 8 (by kernel_rfl) (by kernel_rfl) rfl ?_
        intro ac41 En42
        exact any_end (by kernel_rfl) ⟨En42.sub (by kernel_rfl), Hv39.pick [] (by kernel_rfl) (by decide)⟩
      · rintro _ rfl
        refine op_index (d := some 16) (t := 32) (e := 22) (sz := 1) (len := List.length lx) (cap := cx) (j := k) (ao := ax) (k := .i64) (ix := ((k : Nat) : Int)) En26 (by kernel_rfl) ix.nz (by kernel_rfl) (by kernel_rfl) (by omega) (by omega) (jo := k) (Nat.mul_one _) ?_
        intro ac45 adr43 had44 En46
        refine any_two 2 6 (by kernel_rfl) ?_ ?_
        · rintro _ rfl
          refine op_slice0 (d := some 13) (t := 32) (e := 22) (sz := 1) (len := List.length lx) (cap := cx) (hi := k) (ao := ax) (lov := none) (hiv := (some (.int .i64 ((k : Nat) : Int)))) En46 (by kernel_rfl) (by kernel_rfl) (by kernel_rfl) (by omega) (.inl ⟨rfl, rfl⟩) (.inr ⟨.i64, rfl⟩) ?_
          intro ac47 En48
          refine any_at 6 (by kernel_rfl) rfl ?_
          refine op_loadf (d := some 17) (t := 22) (ad := adr43) (ao := ax) (ys := List.flatMap (fun s : Sl UInt8 => s.f) lx) (o := k) (v := .slice a_x17 (List.length x17) c_x17) En48 (by kernel_rfl) rfl (ix.ro.ev wo18).reads had44 ((flat_get1 (fun _ _ => rfl) hx16).trans rfl) (by kernel_rfl) ?_
          intro ac49 En50
          refine any_at 7 (by kernel_rfl) rfl ?_
          have hM51 : Heap wo8.drew [] := wo18.heap.pick [] (by kernel_rfl) (by decide)
          refine op_call (d := some 18) (f := 34) (args := #[.slice ax k cx, .slice a_x17 (List.length x17) c_x17]) En50 (by kernel_rfl) ((has_ref _ ax k cx (List.take k lx) (by first | rfl | (simp; done) | (simp; omega) | omega) ((ix.take k).go wo18 [] (by kernel_rfl) (fun _ h => (InB.ev h wo18).pick [] (by kernel_rfl))) a_x17 (List.length x17) c_x17 x17 (by first | rfl | (simp; done) | (simp; omega) | omega) ((i_x17.ev wo18).pick [] (by kernel_rfl))).mono ?_)
          rintro _ wo53 ⟨rfl, he56⟩
          refine ⟨_, rfl, ?_⟩
          intro ac52 En54
          have Hv55 : Ev w [] wo53 [] := wo18.trans (Ev.call (R := []) wo18.heap [] (by kernel_rfl) (by decide) he56)
          clear hM51 he56
          refine any_pureR (d := some 4) En54 (v := .bool (decide (x17 ∈ textsOf (List.take k lx)))) 8 (by kernel_rfl) (by kernel_rfl) rfl ?_
          intro ac57 En58
          exact any_end (by kernel_rfl) ⟨En58.sub (by kernel_rfl), Hv55.pick [] (by kernel_rfl) (by decide)⟩
        · rintro _ rfl
          refine op_loadf (d := some 17) (t := 22) (ad := adr43) (ao := ax) (ys := List.flatMap (fun s : Sl UInt8 => s.f) lx) (o := k) (v := .slice a_x17 (List.length x17) c_x17) En46 (by kernel_rfl) rfl (ix.ro.ev wo18).reads had44 ((flat_get1 (fun _ _ => rfl) hx16).trans rfl) (by kernel_rfl) ?_
          intro ac59 En60
          refine any_at 2 (by kernel_rfl) rfl ?_
          refine op_slice0 (d := some 13) (t := 32) (e := 22) (sz := 1) (len := List.length lx) (cap := cx) (hi := k) (ao := ax) (lov := none) (hiv := (some (.int .i64 ((k : Nat) : Int)))) En60 (by kernel_rfl) (by kernel_rfl) (by kernel_rfl) (by omega) (.inl ⟨rfl, rfl⟩) (.inr ⟨.i64, rfl⟩) ?_
          intro ac61 En62
          refine any_at 7 (by kernel_rfl) rfl ?_
          have hM63 : Heap wo8.drew [] := wo18.heap.pick [] (by kernel_rfl) (by decide)
          refine op_call (d := some 18) (f := 34) (args := #[.slice ax k cx, .slice a_x17 (List.length x17) c_x17]) En62 (by kernel_rfl) ((has_ref _ ax k cx (List.take k lx) (by first | rfl | (simp; done) | (simp; omega) | omega) ((ix.take k).go wo18 [] (by kernel_rfl) (fun _ h => (InB.ev h wo18).pick [] (by kernel_rfl))) a_x17 (List.length x17) c_x17 x17 (by first | rfl | (simp; done) | (simp; omega) | omega) ((i_x17.ev wo18).pick [] (by kernel_rfl))).mono ?_)
          rintro _ wo65 ⟨rfl, he68⟩
          refine ⟨_, rfl, ?_⟩
          intro ac64 En66
          have Hv67 : Ev w [] wo65 [] := wo18.trans (Ev.call (R := []) wo18.heap [] (by kernel_rfl) (by decide) he68)
          clear hM63 he68
          refine any_pureR (d := some 4) En66 (v := .bool (decide (x17 ∈ textsOf (List.take k lx)))) 8 (by kernel_rfl) (by kernel_rfl) rfl ?_
          intro ac69 En70
          exact any_end (by kernel_rfl) ⟨En70.sub (by kernel_rfl), Hv67.pick [] (by kernel_rfl) (by decide)⟩
    rintro ac71 wo72 ⟨En73, Hv74⟩
    refine then_normal ?_
    refine wp_seq ?_
    refine region_from ?_  -- region 5
    refine d_pures [(0, .slice ax (List.length lx) cx), (3, .int .i64 ((k : Nat) : Int)), (19, .bool (decide (x17 ∈ textsOf (List.take k lx))))] [.bool (decide (x17 ∈ textsOf (List.take k lx)))] 1 En73 (by kernel_rfl) (by kernel_rfl) rfl ?_
    intro ac75 En76
    refine from_end (by kernel_rfl) ?_
    refine then_normal ?_
    refine cond_at En76 (t := decide (x17 ∈ textsOf (List.take k lx))) (by kernel_rfl) (fun hc77 => ?_) (fun hc77 => ?_)
    ·
      replace hc77 : x17 ∈ textsOf (List.take k lx) := of_decide_eq_true hc77
      refine wp_seq ?_
      refine region_from ?_  -- region 6
      refine d_pures [(0, .slice ax (List.length lx) cx), (2, .int .i64 ((k : Nat) : Int)), (3, .int .i64 ((k : Nat) : Int))] [.int .i64 ((k : Nat) : Int), .int .i64 ((k : Nat) : Int)] 2 En76 (by kernel_rfl) (by kernel_rfl) rfl ?_
      intro ac78 En79
      refine from_end (by kernel_rfl) ?_
      refine then_normal ?_
      refine wp_ret ?_
      refine block_ret ?_
      refine then_ret ?_
      refine then_ret ?_
      refine block_ret ?_
      refine then_ret ?_
      refine d_ret1 (t := 2) (v := .int .i64 ((k : Nat) : Int)) En79 (by kernel_rfl) (by kernel_rfl) ?_
      have e : repF lx = ((k : Nat) : Int) := firstAt_yes (by omega) (by rw [texts_at hx16]; rw [texts_of_take] at hc77; exact decide_eq_true hc77) hn1
      exact ⟨by rw [e], Hv74.pick [] (by kernel_rfl) (by decide)⟩
    ·
      replace hc77 : ¬ (x17 ∈ textsOf (List.take k lx)) := of_decide_eq_false hc77
      refine wp_skip ?_
      refine block_normal ?_
      refine then_normal ?_
      refine region_from ?_  -- region 3
      refine d_pures [(0, .slice ax (List.length lx) cx), (3, .int .i64 ((k : Nat) : Int)), (10, .int .i64 (IntKind.wrap .i64 (((k : Nat) : Int) + (1 : Int))))] [.int .i64 ((k : Nat) : Int), .int .i64 (IntKind.wrap .i64 (((k : Nat) : Int) + (1 : Int)))] 2 En76 (by kernel_rfl) (by kernel_rfl) rfl ?_
      intro ac80 En81
      rw [Go.Dbr.wr64 (e := ((k : Nat) : Int) + (1 : Int)) (x := ((k + 1 : Nat) : Int)) (by omega) (by omega) (by omega)] at En81
      refine d_pures [(0, .slice ax (List.length lx) cx), (3, .int .i64 ((k + 1 : Nat) : Int))] [.int .i64 ((k + 1 : Nat) : Int)] 3 En81 (by kernel_rfl) (by kernel_rfl) rfl ?_
      intro ac82 En83
      refine from_end (by kernel_rfl) ?_
      refine then_normal ?_
      refine ⟨_, ⟨k + 1, rfl, En83.sub (by kernel_rfl), Hv74.pick [] (by kernel_rfl) (by decide), by omega, firstAt_step hn1 (by rw [texts_at hx16]; rw [texts_of_take] at hc77; exact decide_eq_false hc77)⟩, ?_⟩
      omega
  ·
    replace hc14 : ¬ (((k : Nat) : Int) < ((List.length lx : Nat) : Int)) := of_decide_eq_false hc14
    refine wp_exit ?_
    refine then_exit ?_
    refine then_exit ?_
    refine block_exit ?_
    refine then_normal ?_
    refine wp_seq ?_
    refine region_from ?_  -- region 7
    refine d_pures [(0, .slice ax (List.length lx) cx), (2, .int .i64 (-1)), (3, .int .i64 ((k : Nat) : Int))] [.int .i64 (-1)] 1 En13 (by kernel_rfl) (by kernel_rfl) rfl ?_
    intro ac84 En85
    refine from_end (by kernel_rfl) ?_
    refine then_normal ?_
    refine wp_ret ?_
    refine d_ret1 (t := 2) (v := .int .i64 (-1)) En85 (by kernel_rfl) (by kernel_rfl) ?_
    have hkk : k = List.length lx := by omega
    have e : repF lx = -1 := firstAt_no (by rw [← hkk]; exact hn1)
    exact ⟨by rw [e], Hv10.pick [] (by kernel_rfl) (by decide)⟩

theorem known_go (w : World) (bk mb : Nat) (s : List (List UInt8)) (hH : Heap w [.box bk [.map (some mb)] 59, .map mb (kvs Value.bool (setKV s))]) (ay : Option Addr) (ny cy : Nat) (ly : List UInt8) (ey : ny = List.length ly) (iy : InB w [.box bk [.map (some mb)] 59, .map mb (kvs Value.bool (setKV s))] ay cy ly) : Calls Try.prog 33 #[.slice ay ny cy, .pointer (some ⟨bk, 0, none⟩)] w fun e w' => e = .returned (.bool (!(decide (ly ∈ s)))) ∧ Ev w [.box bk [.map (some mb)] 59, .map mb (kvs Value.bool (setKV s))] w' [.box bk [.map (some mb)] 59, .map mb (kvs Value.bool (setKV s))] := by
  subst ey
  have hs2 := iy.small
  refine d_start [(0, .slice ay (List.length ly) cy), (1, .pointer (some ⟨bk, 0, none⟩))] 9 Go.Proofs.Try.func33 Go.Proofs.Try.ntmps33 rfl (by kernel_rfl) (by kernel_rfl) ?_
  intro act0 En0
  have Hv0 : Ev w [.box bk [.map (some mb)] 59, .map mb (kvs Value.bool (setKV s))] w [.box bk [.map (some mb)] 59, .map mb (kvs Value.bool (setKV s))] := Ev.refl (hH)
  refine wp_seq ?_
  refine region_from ?_  -- region 0
  refine d_pures [(0, .slice ay (List.length ly) cy), (1, .pointer (some ⟨bk, 0, none⟩)), (3, .bool false)] [.bool false] 1 En0 (by kernel_rfl) (by kernel_rfl) rfl ?_
  intro ac1 En2
  refine from_end (by kernel_rfl) ?_
  refine then_normal ?_
  refine wp_seq ?_
  refine region_from ?_  -- region 1
  refine from_op (by kernel_rfl) ?_
  refine op_loadbox (d := some 4) (t := 59) (b := bk) (off := 0) (k := 0) (v := .map (some mb)) En2 (by kernel_rfl) Hv0 rfl rfl (by kernel_rfl) ?_
  intro ac3 En4
  refine d_pures [(3, .bool false), (4, .map (some mb)), (5, .slice ay (List.length ly) cy)] [.slice ay (List.length ly) cy] 2 En4 (by kernel_rfl) (by kernel_rfl) rfl ?_
  intro ac5 En6
  refine from_op (by kernel_rfl) ?_
  refine op_str (d := some 6) (src := 22) (dst := 9) (e := 5) (ao := ay) (cap := cy) (p := List.length ly) (bs := ly) En6 (by kernel_rfl) rfl (by kernel_rfl) (by kernel_rfl) (by kernel_rfl) (iy.ev Hv0).reads iy.nz ?_
  intro ac7 En8
  refine from_op (by kernel_rfl) ?_
  refine op_lookup (d := some 7) (t := 59) (kt := 9) (et := 4) (b := mb) (j := 1) (k := ly) (m := setKV s) (f := Value.bool) (z := .bool false) (v := .bool (decide (ly ∈ s))) (ok := false) En8 (by kernel_rfl) Hv0 rfl (by kernel_rfl) (by kernel_rfl) (by kernel_rfl) (set_at s ly) ?_
  intro ac9 En10
  refine d_pures [(3, .bool (!(decide (ly ∈ s))))] [.bool (!(decide (ly ∈ s))), .bool (!(decide (ly ∈ s)))] 6 En10 (by kernel_rfl) (by kernel_rfl) rfl ?_
  intro ac11 En12
  refine from_end (by kernel_rfl) ?_
  refine then_normal ?_
  refine wp_ret ?_
  refine d_ret1 (t := 3) (v := .bool (!(decide (ly ∈ s)))) En12 (by kernel_rfl) (by kernel_rfl) ?_
  exact ⟨rfl, Hv0.pick [0, 1] (by kernel_rfl) (by decide)⟩

theorem index_go (w : World) (bk mb : Nat) (s : List (List UInt8)) (hH : Heap w [.box bk [.map (some mb)] 59, .map mb (kvs Value.bool (setKV s))]) (ax : Option Addr) (nx cx : Nat) (lx : List (Sl UInt8)) (ex : nx = List.length lx) (ix : InS (fun s : Sl UInt8 => s.f) 24 (fun x : Sl UInt8 => InB w [.box bk [.map (some mb)] 59, .map mb (kvs Value.bool (setKV s))] x.a x.c x.l) w [.box bk [.map (some mb)] 59, .map mb (kvs Value.bool (setKV s))] ax cx lx) : Calls Try.prog 32 #[.slice ax nx cx, .func (.func 33) #[] #[.pointer (some ⟨bk, 0, none⟩)]] w fun e w' => e = .returned (.int .i64 (firstAt (fun i => !(decide ((textsOf lx).getD i [] ∈ s))) (List.length lx))) ∧ Ev w [.box bk [.map (some mb)] 59, .map mb (kvs Value.bool (setKV s))] w' [.box bk [.map (some mb)] 59, .map mb (kvs Value.bool (setKV s))] := by
  subst ex
  have hs := ix.small
  have hc2 := ix.cap
  refine d_start [(0, .slice ax (List.length lx) cx), (1, .func (.func 33) #[] #[.pointer (some ⟨bk, 0, none⟩)])] 19 Go.Proofs.Try.func32 Go.Proofs.Try.ntmps32 rfl (by kernel_rfl) (by kernel_rfl) ?_
  intro act0 En0
  have Hv0 : Ev w [.box bk [.map (some mb)] 59, .map mb (kvs Value.bool (setKV s))] w [.box bk [.map (some mb)] 59, .map mb (kvs Value.bool (setKV s))] := Ev.refl (hH)
  refine wp_seq ?_
  refine region_from ?_  -- region 0
  refine d_pures [(0, .slice ax (List.length lx) cx), (1, .func (.func 33) #[] #[.pointer (some ⟨bk, 0, none⟩)]), (4, .int .i64 0)] [.int .i64 0] 1 En0 (by kernel_rfl) (by kernel_rfl) rfl ?_
  intro ac1 En2
  refine from_end (by kernel_rfl) ?_
  refine then_normal ?_
  refine wp_seq ?_
  refine wp_seq ?_
  refine region_from ?_  -- region 1
  refine d_pures [(0, .slice ax (List.length lx) cx), (1, .func (.func 33) #[] #[.pointer (some ⟨bk, 0, none⟩)]), (4, .int .i64 0), (7, .int .i64 ((List.length lx : Nat) : Int)), (8, .int .i64 0)] [.slice ax (List.length lx) cx, .int .i64 ((List.length lx : Nat) : Int), .int .i64 0] 3 En2 (by kernel_rfl) (by kernel_rfl) rfl ?_
  intro ac3 En4
  refine from_end (by kernel_rfl) ?_
  refine then_normal ?_
  refine wp_block ?_
  refine loop_m (fun ms5 ac wo => ∃ (k : Nat), ms5 = (List.length lx - k : Nat) ∧ Env ac 19 [(0, .slice ax (List.length lx) cx), (1, .func (.func 33) #[] #[.pointer (some ⟨bk, 0, none⟩)]), (7, .int .i64 ((List.length lx : Nat) : Int)), (8, .int .i64 ((k : Nat) : Int))] ∧ Ev w [.box bk [.map (some mb)] 59, .map mb (kvs Value.bool (setKV s))] wo [.box bk [.map (some mb)] 59, .map mb (kvs Value.bool (setKV s))] ∧ (k ≤ List.length lx) ∧ (∀ j, j < k → (fun i => !(decide ((textsOf lx).getD i [] ∈ s))) j = false)) ⟨_, 0, rfl, En4.sub (by kernel_rfl), Hv0.pick [0, 1] (by kernel_rfl) (by decide), by omega, fun j hj => by omega⟩ ?_
  rintro mm11 ac7 wo8 ⟨k, rfl, En9, Hv10, hk, hn1⟩
  refine wp_seq ?_
  refine region_from ?_  -- region 2
  refine d_pures [(0, .slice ax (List.length lx) cx), (1, .func (.func 33) #[] #[.pointer (some ⟨bk, 0, none⟩)]), (7, .int .i64 ((List.length lx : Nat) : Int)), (8, .int .i64 ((k : Nat) : Int)), (9, .bool (decide (((k : Nat) : Int) < ((List.length lx : Nat) : Int))))] [.bool (decide (((k : Nat) : Int) < ((List.length lx : Nat) : Int)))] 1 En9 (by kernel_rfl) (by kernel_rfl) rfl ?_
  intro ac12 En13
  refine from_end (by kernel_rfl) ?_
  refine then_normal ?_
  refine wp_seq ?_
  refine cond_at En13 (t := decide (((k : Nat) : Int) < ((List.length lx : Nat) : Int))) (by kernel_rfl) (fun hc14 => ?_) (fun hc14 => ?_)
  ·
    replace hc14 : ((k : Nat) : Int) < ((List.length lx : Nat) : Int) := of_decide_eq_true hc14
    refine wp_skip ?_
    refine then_normal ?_
    refine wp_seq ?_
    refine wp_block ?_
    refine wp_seq ?_
    refine region_from ?_  -- region 3
    refine d_pures [(0, .slice ax (List.length lx) cx), (1, .func (.func 33) #[] #[.pointer (some ⟨bk, 0, none⟩)]), (5, .int .i64 ((k : Nat) : Int)), (7, .int .i64 ((List.length lx : Nat) : Int)), (8, .int .i64 ((k : Nat) : Int))] [.int .i64 ((k : Nat) : Int), .int .i64 ((k : Nat) : Int)] 2 En13 (by kernel_rfl) (by kernel_rfl) rfl ?_
    intro ac15 En16
    refine from_end (by kernel_rfl) ?_
    refine then_normal ?_
    refine wp_seq ?_
    refine region_from ?_  -- region 4
    refine d_pures [(0, .slice ax (List.length lx) cx), (1, .func (.func 33) #[] #[.pointer (some ⟨bk, 0, none⟩)]), (5, .int .i64 ((k : Nat) : Int)), (7, .int .i64 ((List.length lx : Nat) : Int)), (8, .int .i64 ((k : Nat) : Int)), (11, .func (.func 33) #[] #[.pointer (some ⟨bk, 0, none⟩)]), (12, .slice ax (List.length lx) cx), (13, .int .i64 ((k : Nat) : Int))] [.func (.func 33) #[] #[.pointer (some ⟨bk, 0, none⟩)], .slice ax (List.length lx) cx, .int .i64 ((k : Nat) : Int)] 3 En16 (by kernel_rfl) (by kernel_rfl) rfl ?_
    intro ac17 En18
    refine from_op (by kernel_rfl) ?_
    refine op_index (d := some 14) (t := 32) (e := 22) (sz := 1) (len := List.length lx) (cap := cx) (j := k) (ao := ax) (k := .i64) (ix := ((k : Nat) : Int)) En18 (by kernel_rfl) ix.nz (by kernel_rfl) (by kernel_rfl) (by omega) (by omega) (jo := k) (Nat.mul_one _) ?_
    intro ac21 adr19 had20 En22
    have hb23 : k < List.length lx := by omega
    obtain ⟨⟨a_x25, c_x25, x25⟩, hx24⟩ : ∃ x, (lx)[k]? = some x := ⟨_, List.getElem?_eq_getElem hb23⟩
    obtain i_x25 := ix.each _ (List.mem_of_getElem? hx24)
    replace i_x25 : InB w [.box bk [.map (some mb)] 59, .map mb (kvs Value.bool (setKV s))] a_x25 c_x25 x25 := i_x25
    refine from_op (by kernel_rfl) ?_
    refine op_loadf (d := some 15) (t := 22) (ad := adr19) (ao := ax) (ys := List.flatMap (fun s : Sl UInt8 => s.f) lx) (o := k) (v := .slice a_x25 (List.length x25) c_x25) En22 (by kernel_rfl) rfl (ix.ro.ev Hv10).reads had20 ((flat_get1 (fun _ _ => rfl) hx24).trans rfl) (by kernel_rfl) ?_
    intro ac26 En27
    refine from_op (by kernel_rfl) ?_
    have hM28 : Heap wo8 [.box bk [.map (some mb)] 59, .map mb (kvs Value.bool (setKV s))] := Hv10.heap.pick [0, 1] (by kernel_rfl) (by decide)
    refine op_call (d := some 16) (f := 33) (args := #[.slice a_x25 (List.length x25) c_x25, .pointer (some ⟨bk, 0, none⟩)]) En27 (by kernel_rfl) ((known_go _ bk mb s hM28 a_x25 (List.length x25) c_x25 x25 (by first | rfl | (simp; done) | (simp; omega) | omega) ((i_x25.ev Hv10).pick [0, 1] (by kernel_rfl))).mono ?_)
    rintro _ wo30 ⟨rfl, he33⟩
    refine ⟨_, rfl, ?_⟩
    intro ac29 En31
    have Hv32 : Ev w [.box bk [.map (some mb)] 59, .map mb (kvs Value.bool (setKV s))] wo30 [.box bk [.map (some mb)] 59, .map mb (kvs Value.bool (setKV s))] := Hv10.trans (Ev.call (R := []) Hv10.heap [0, 1] (by kernel_rfl) (by decide) he33)
    clear hM28 he33
    refine from_end (by kernel_rfl) ?_
    refine then_normal ?_
    refine cond_at En31 (t := !(decide (x25 ∈ s))) (by kernel_rfl) (fun hc34 => ?_) (fun hc34 => ?_)
    ·
      refine wp_seq ?_
      refine region_from ?_  -- region 5
      refine d_pures [(0, .slice ax (List.length lx) cx), (1, .func (.func 33) #[] #[.pointer (some ⟨bk, 0, none⟩)]), (4, .int .i64 ((k : Nat) : Int)), (5, .int .i64 ((k : Nat) : Int)), (7, .int .i64 ((List.length lx : Nat) : Int)), (8, .int .i64 ((k : Nat) : Int))] [.int .i64 ((k : Nat) : Int), .int .i64 ((k : Nat) : Int)] 2 En31 (by kernel_rfl) (by kernel_rfl) rfl ?_
      intro ac35 En36
      refine from_end (by kernel_rfl) ?_
      refine then_normal ?_
      refine wp_ret ?_
      refine block_ret ?_
      refine then_ret ?_
      refine then_ret ?_
      refine block_ret ?_
      refine then_ret ?_
      refine d_ret1 (t := 4) (v := .int .i64 ((k : Nat) : Int)) En36 (by kernel_rfl) (by kernel_rfl) ?_
      have e : firstAt (fun i => !(decide ((textsOf lx).getD i [] ∈ s))) (List.length lx) = ((k : Nat) : Int) := firstAt_yes (by omega) (by rw [texts_at hx24]; exact hc34) hn1
      exact ⟨by rw [e], Hv32.pick [0, 1] (by kernel_rfl) (by decide)⟩
    ·
      refine wp_skip ?_
      refine block_normal ?_
      refine then_normal ?_
      refine region_from ?_  -- region 6
      refine d_pures [(0, .slice ax (List.length lx) cx), (1, .func (.func 33) #[] #[.pointer (some ⟨bk, 0, none⟩)]), (5, .int .i64 ((k : Nat) : Int)), (7, .int .i64 ((List.length lx : Nat) : Int)), (8, .int .i64 ((k : Nat) : Int)), (18, .int .i64 (IntKind.wrap .i64 (((k : Nat) : Int) + (1 : Int))))] [.int .i64 (IntKind.wrap .i64 (((k : Nat) : Int) + (1 : Int)))] 1 En31 (by kernel_rfl) (by kernel_rfl) rfl ?_
      intro ac37 En38
      rw [Go.Dbr.wr64 (e := ((k : Nat) : Int) + (1 : Int)) (x := ((k + 1 : Nat) : Int)) (by omega) (by omega) (by omega)] at En38
      refine d_pures [(0, .slice ax (List.length lx) cx), (1, .func (.func 33) #[] #[.pointer (some ⟨bk, 0, none⟩)]), (5, .int .i64 ((k : Nat) : Int)), (7, .int .i64 ((List.length lx : Nat) : Int)), (8, .int .i64 ((k + 1 : Nat) : Int))] [.int .i64 ((k + 1 : Nat) : Int)] 2 En38 (by kernel_rfl) (by kernel_rfl) rfl ?_
      intro ac39 En40
      refine from_end (by kernel_rfl) ?_
      refine then_normal ?_
      refine ⟨_, ⟨k + 1, rfl, En40.sub (by kernel_rfl), Hv32.pick [0, 1] (by kernel_rfl) (by decide), by omega, firstAt_step hn1 (by rw [texts_at hx24]; exact hc34)⟩, ?_⟩
      omega
  ·
    replace hc14 : ¬ (((k : Nat) : Int) < ((List.length lx : Nat) : Int)) := of_decide_eq_false hc14
    refine wp_exit ?_
    refine then_exit ?_
    refine then_exit ?_
    refine block_exit ?_
    refine then_normal ?_
    refine wp_seq ?_
    refine region_from ?_  -- region 7
    refine d_pures [(0, .slice ax (List.length lx) cx), (1, .func (.func 33) #[] #[.pointer (some ⟨bk, 0, none⟩)]), (4, .int .i64 (-1)), (7, .int .i64 ((List.length lx : Nat) : Int)), (8, .int .i64 ((k : Nat) : Int))] [.int .i64 (-1)] 1 En13 (by kernel_rfl) (by kernel_rfl) rfl ?_
    intro ac41 En42
    refine from_end (by kernel_rfl) ?_
    refine then_normal ?_
    refine wp_ret ?_
    refine d_ret1 (t := 4) (v := .int .i64 (-1)) En42 (by kernel_rfl) (by kernel_rfl) ?_
    have hkk : k = List.length lx := by omega
    have e : firstAt (fun i => !(decide ((textsOf lx).getD i [] ∈ s))) (List.length lx) = -1 := firstAt_no (by rw [← hkk]; exact hn1)
    exact ⟨by rw [e], Hv10.pick [0, 1] (by kernel_rfl) (by decide)⟩

theorem forged_go (w : World) (ag : Option Addr) (ng cg : Nat) (lg : List (Sl UInt8)) (eg : ng = List.length lg) (ig : InS (fun s : Sl UInt8 => s.f) 24 (fun x : Sl UInt8 => InB w [] x.a x.c x.l) w [] ag cg lg) (ao : Option Addr) (no co : Nat) (lo : List (Sl UInt8)) (eo : no = List.length lo) (io : InS (fun s : Sl UInt8 => s.f) 24 (fun x : Sl UInt8 => InB w [] x.a x.c x.l) w [] ao co lo) : Calls Try.prog 13 #[.slice ag ng cg, .slice ao no co] w fun e w' => e = .returned (.int .i64 (forgF lg lo)) ∧ Ev w [] w' [] := by
  subst eo eg
  have hs1 := io.small
  have hs2 := ig.small
  have hc1 := io.cap
  have hc2 := ig.cap
  refine d_start [(0, .slice ag (List.length lg) cg), (1, .slice ao (List.length lo) co)] 22 Go.Proofs.Try.func13 Go.Proofs.Try.ntmps13 rfl (by kernel_rfl) (by kernel_rfl) ?_
  intro act0 En0
  have Hv0 : Ev w [] w [] := Ev.refl (Heap.nil _)
  refine wp_seq ?_
  refine region_from ?_  -- region 0
  refine d_pures [(0, .slice ag (List.length lg) cg), (1, .slice ao (List.length lo) co), (4, .int .i64 0)] [.int .i64 0] 1 En0 (by kernel_rfl) (by kernel_rfl) rfl ?_
  intro ac1 En2
  refine from_end (by kernel_rfl) ?_
  refine then_normal ?_
  refine wp_seq ?_
  refine region_from ?_  -- region 1
  refine from_op (by kernel_rfl) ?_
  refine op_makemap (d := some 8) (t := 59) En2 (by kernel_rfl) Hv0 ?_
  intro ac4 wo5 bk3 En6 Hv7
  replace Hv7 : Ev w [] wo5 [.map bk3 (kvs Value.bool (setKV []))] := Hv7
  refine from_op (by kernel_rfl) ?_
  refine op_alloc (d := some 5) (T := 59) (x := .tuple #[]) (z := .map none) (cs := [.map none]) En6 (by kernel_rfl) (by kernel_rfl) (by kernel_rfl) Hv7 ?_
  intro ac9 wo10 bk8 En11 Hv12
  refine from_op (by kernel_rfl) ?_
  refine op_storebox2 (d := none) (t := 59) (b := bk8) (off := 0) (k := 1) (v := .map (some bk3)) En11 (by kernel_rfl) Hv12 rfl rfl (by kernel_rfl) rfl rfl (L' := [.map bk3 (kvs Value.bool (setKV [])), .box bk8 [.map (some bk3)] 59]) rfl ?_
  intro ac13 wo14  En15 Hv16
  refine from_end (by kernel_rfl) ?_
  refine then_normal ?_
  refine wp_seq ?_
  refine wp_seq ?_
  refine region_from ?_  -- region 2
  refine d_pures [(1, .slice ao (List.length lo) co), (4, .int .i64 0), (5, .pointer (some ⟨bk8, 0, none⟩)), (9, .slice ag (List.length lg) cg), (10, .int .i64 ((List.length lg : Nat) : Int)), (11, .int .i64 0)] [.slice ag (List.length lg) cg, .int .i64 ((List.length lg : Nat) : Int), .int .i64 0] 3 En15 (by kernel_rfl) (by kernel_rfl) rfl ?_
  intro ac17 En18
  refine from_end (by kernel_rfl) ?_
  refine then_normal ?_
  refine wp_block ?_
  refine loop_m (fun ms19 ac wo => ∃ (k : Nat) (s : List (List UInt8)), ms19 = (List.length lg - k : Nat) ∧ Env ac 22 [(1, .slice ao (List.length lo) co), (4, .int .i64 0), (5, .pointer (some ⟨bk8, 0, none⟩)), (9, .slice ag (List.length lg) cg), (10, .int .i64 ((List.length lg : Nat) : Int)), (11, .int .i64 ((k : Nat) : Int))] ∧ Ev w [] wo [.box bk8 [.map (some bk3)] 59, .map bk3 (kvs Value.bool (setKV s))] ∧ (k ≤ List.length lg) ∧ (∀ y, y ∈ s ↔ y ∈ List.take k (textsOf lg))) ⟨_, 0, [], rfl, En18.sub (by kernel_rfl), Hv16.pick [1, 0] (by kernel_rfl) (by decide), by omega, fun y => by simp⟩ ?_
  rintro mm25 ac21 wo22 ⟨k, s, rfl, En23, Hv24, hk, hs3⟩
  refine wp_seq ?_
  refine region_from ?_  -- region 3
  refine d_pures [(1, .slice ao (List.length lo) co), (4, .int .i64 0), (5, .pointer (some ⟨bk8, 0, none⟩)), (9, .slice ag (List.length lg) cg), (10, .int .i64 ((List.length lg : Nat) : Int)), (11, .int .i64 ((k : Nat) : Int)), (12, .bool (decide (((k : Nat) : Int) < ((List.length lg : Nat) : Int))))] [.bool (decide (((k : Nat) : Int) < ((List.length lg : Nat) : Int)))] 1 En23 (by kernel_rfl) (by kernel_rfl) rfl ?_
  intro ac26 En27
  refine from_end (by kernel_rfl) ?_
  refine then_normal ?_
  refine wp_seq ?_
  refine cond_at En27 (t := decide (((k : Nat) : Int) < ((List.length lg : Nat) : Int))) (by kernel_rfl) (fun hc28 => ?_) (fun hc28 => ?_)
  ·
    replace hc28 : ((k : Nat) : Int) < ((List.length lg : Nat) : Int) := of_decide_eq_true hc28
    refine wp_skip ?_
    refine then_normal ?_
    refine wp_seq ?_
    refine wp_block ?_
    refine wp_seq ?_
    refine region_from ?_  -- region 4
    refine from_op (by kernel_rfl) ?_
    refine op_index (d := some 13) (t := 32) (e := 22) (sz := 1) (len := List.length lg) (cap := cg) (j := k) (ao := ag) (k := .i64) (ix := ((k : Nat) : Int)) En27 (by kernel_rfl) ig.nz (by kernel_rfl) (by kernel_rfl) (by omega) (by omega) (jo := k) (Nat.mul_one _) ?_
    intro ac31 adr29 had30 En32
    have hb33 : k < List.length lg := by omega
    obtain ⟨⟨a_x35, c_x35, x35⟩, hx34⟩ : ∃ x, (lg)[k]? = some x := ⟨_, List.getElem?_eq_getElem hb33⟩
    obtain i_x35 := ig.each _ (List.mem_of_getElem? hx34)
    replace i_x35 : InB w [] a_x35 c_x35 x35 := i_x35
    refine from_op (by kernel_rfl) ?_
    refine op_loadf (d := some 14) (t := 22) (ad := adr29) (ao := ag) (ys := List.flatMap (fun s : Sl UInt8 => s.f) lg) (o := k) (v := .slice a_x35 (List.length x35) c_x35) En32 (by kernel_rfl) rfl (ig.ro.ev Hv24).reads had30 ((flat_get1 (fun _ _ => rfl) hx34).trans rfl) (by kernel_rfl) ?_
    intro ac36 En37
    refine d_pures [(1, .slice ao (List.length lo) co), (4, .int .i64 0), (5, .pointer (some ⟨bk8, 0, none⟩)), (7, .slice a_x35 (List.length x35) c_x35), (9, .slice ag (List.length lg) cg), (10, .int .i64 ((List.length lg : Nat) : Int)), (11, .int .i64 ((k : Nat) : Int))] [.slice a_x35 (List.length x35) c_x35] 3 En37 (by kernel_rfl) (by kernel_rfl) rfl ?_
    intro ac38 En39
    refine from_end (by kernel_rfl) ?_
    refine then_normal ?_
    refine region_from ?_  -- region 5
    refine from_op (by kernel_rfl) ?_
    refine op_loadbox (d := some 15) (t := 59) (b := bk8) (off := 0) (k := 0) (v := .map (some bk3)) En39 (by kernel_rfl) Hv24 rfl rfl (by kernel_rfl) ?_
    intro ac40 En41
    refine d_pures [(1, .slice ao (List.length lo) co), (4, .int .i64 0), (5, .pointer (some ⟨bk8, 0, none⟩)), (9, .slice ag (List.length lg) cg), (10, .int .i64 ((List.length lg : Nat) : Int)), (11, .int .i64 ((k : Nat) : Int)), (15, .map (some bk3)), (16, .slice a_x35 (List.length x35) c_x35)] [.slice a_x35 (List.length x35) c_x35] 2 En41 (by kernel_rfl) (by kernel_rfl) rfl ?_
    intro ac42 En43
    refine from_op (by kernel_rfl) ?_
    refine op_str (d := some 17) (src := 22) (dst := 9) (e := 5) (ao := a_x35) (cap := c_x35) (p := List.length x35) (bs := x35) En43 (by kernel_rfl) rfl (by kernel_rfl) (by kernel_rfl) (by kernel_rfl) (i_x35.ev Hv24).reads i_x35.nz ?_
    intro ac44 En45
    refine from_op (by kernel_rfl) ?_
    refine op_update (d := none) (t := 59) (kt := 9) (et := 4) (b := bk3) (j := 1) (k := x35) (m := setKV s) (f := Value.bool) (v := true) (V := .bool true) En45 (by kernel_rfl) rfl Hv24 rfl (by kernel_rfl) (by kernel_rfl) ?_
    intro ac46 wo47  En48 Hv49
    rw [set_put] at Hv49
    refine from_end (by kernel_rfl) ?_
    refine block_normal ?_
    refine then_normal ?_
    refine region_from ?_  -- region 6
    refine d_pures [(1, .slice ao (List.length lo) co), (4, .int .i64 0), (5, .pointer (some ⟨bk8, 0, none⟩)), (9, .slice ag (List.length lg) cg), (10, .int .i64 ((List.length lg : Nat) : Int)), (11, .int .i64 ((k : Nat) : Int)), (18, .int .i64 (IntKind.wrap .i64 (((k : Nat) : Int) + (1 : Int))))] [.int .i64 (IntKind.wrap .i64 (((k : Nat) : Int) + (1 : Int)))] 1 En48 (by kernel_rfl) (by kernel_rfl) rfl ?_
    intro ac50 En51
    rw [Go.Dbr.wr64 (e := ((k : Nat) : Int) + (1 : Int)) (x := ((k + 1 : Nat) : Int)) (by omega) (by omega) (by omega)] at En51
    refine d_pures [(1, .slice ao (List.length lo) co), (4, .int .i64 0), (5, .pointer (some ⟨bk8, 0, none⟩)), (9, .slice ag (List.length lg) cg), (10, .int .i64 ((List.length lg : Nat) : Int)), (11, .int .i64 ((k + 1 : Nat) : Int))] [.int .i64 ((k + 1 : Nat) : Int)] 2 En51 (by kernel_rfl) (by kernel_rfl) rfl ?_
    intro ac52 En53
    refine from_end (by kernel_rfl) ?_
    refine then_normal ?_
    refine ⟨_, ⟨k + 1, addKey x35 s, rfl, En53.sub (by kernel_rfl), Hv49.pick [0, 1] (by kernel_rfl) (by decide), by omega, fun y => by rw [mem_addKey, texts_take hx34, hs3 y]⟩, ?_⟩
    omega
  ·
    replace hc28 : ¬ (((k : Nat) : Int) < ((List.length lg : Nat) : Int)) := of_decide_eq_false hc28
    refine wp_exit ?_
    refine then_exit ?_
    refine then_exit ?_
    refine block_exit ?_
    refine then_normal ?_
    refine wp_seq ?_
    refine region_from ?_  -- region 7
    refine d_pures [(4, .int .i64 0), (5, .pointer (some ⟨bk8, 0, none⟩)), (9, .slice ag (List.length lg) cg), (10, .int .i64 ((List.length lg : Nat) : Int)), (11, .int .i64 ((k : Nat) : Int)), (19, .slice ao (List.length lo) co), (20, .func (.func 33) #[] #[.pointer (some ⟨bk8, 0, none⟩)])] [.slice ao (List.length lo) co, .func (.func 33) #[] #[.pointer (some ⟨bk8, 0, none⟩)]] 2 En27 (by kernel_rfl) (by kernel_rfl) rfl ?_
    intro ac54 En55
    refine from_op (by kernel_rfl) ?_
    have hM56 : Heap wo22 [.box bk8 [.map (some bk3)] 59, .map bk3 (kvs Value.bool (setKV s))] := Hv24.heap.pick [0, 1] (by kernel_rfl) (by decide)
    refine op_call (d := some 21) (f := 32) (args := #[.slice ao (List.length lo) co, .func (.func 33) #[] #[.pointer (some ⟨bk8, 0, none⟩)]]) En55 (by kernel_rfl) ((index_go _ bk8 bk3 s hM56 ao (List.length lo) co lo (by first | rfl | (simp; done) | (simp; omega) | omega) (io.go Hv24 [0, 1] (by kernel_rfl) (fun _ h => (InB.ev h Hv24).pick [0, 1] (by kernel_rfl)))).mono ?_)
    rintro _ wo58 ⟨rfl, he61⟩
    refine ⟨_, rfl, ?_⟩
    intro ac57 En59
    have Hv60 : Ev w [] wo58 [.box bk8 [.map (some bk3)] 59, .map bk3 (kvs Value.bool (setKV s))] := Hv24.trans (Ev.call (R := []) Hv24.heap [0, 1] (by kernel_rfl) (by decide) he61)
    clear hM56 he61
    refine d_pures [(4, .int .i64 (firstAt (fun i => !(decide ((textsOf lo).getD i [] ∈ s))) (List.length lo))), (5, .pointer (some ⟨bk8, 0, none⟩)), (9, .slice ag (List.length lg) cg), (10, .int .i64 ((List.length lg : Nat) : Int)), (11, .int .i64 ((k : Nat) : Int))] [.int .i64 (firstAt (fun i => !(decide ((textsOf lo).getD i [] ∈ s))) (List.length lo))] 4 En59 (by kernel_rfl) (by kernel_rfl) rfl ?_
    intro ac62 En63
    refine from_end (by kernel_rfl) ?_
    refine then_normal ?_
    refine wp_ret ?_
    refine d_ret1 (t := 4) (v := .int .i64 (firstAt (fun i => !(decide ((textsOf lo).getD i [] ∈ s))) (List.length lo))) En63 (by kernel_rfl) (by kernel_rfl) ?_
    have hkk : k = List.length lg := by omega
    have e : firstAt (fun i => !(decide ((textsOf lo).getD i [] ∈ s))) (List.length lo) = forgF lg lo := by
      unfold forgF forgB; congr 1; funext i; congr 1; rw [decide_eq_decide, hs3, hkk, List.take_of_length_le (by simp [textsOf])]
    exact ⟨by rw [e], Hv60.pick [] (by kernel_rfl) (by decide)⟩

theorem breaks_walk (a_va : Option Addr) (c_va : Nat) (va : List (Sl UInt8)) (a_vb : Option Addr) (c_vb : Nat) (vb : List (Sl UInt8)) (a_s : Option Addr) (c_s : Nat) (s : List (Sl UInt8)) (a_d : Option Addr) (c_d : Nat) (d : List (Sl UInt8)) (w : World) (i_va : InS (fun s : Sl UInt8 => s.f) 24 (fun x : Sl UInt8 => InB w [] x.a x.c x.l) w [] a_va c_va va) (i_vb : InS (fun s : Sl UInt8 => s.f) 24 (fun x : Sl UInt8 => InB w [] x.a x.c x.l) w [] a_vb c_vb vb) (i_s : InS (fun s : Sl UInt8 => s.f) 24 (fun x : Sl UInt8 => InB w [] x.a x.c x.l) w [] a_s c_s s) (i_d : InS (fun s : Sl UInt8 => s.f) 24 (fun x : Sl UInt8 => InB w [] x.a x.c x.l) w [] a_d c_d d) : Calls Try.prog 5 #[.agg #[.slice a_va (List.length va) c_va, .slice a_vb (List.length vb) c_vb], .slice a_s (List.length s) c_s, .slice a_d (List.length d) c_d] w fun e w' => e = .returned (.bool true) ∧ Ev w [] w' [] := by
  refine d_start [(0, .agg #[.slice a_va (List.length va) c_va, .slice a_vb (List.length vb) c_vb]), (1, .slice a_s (List.length s) c_s), (2, .slice a_d (List.length d) c_d)] 37 Go.Proofs.Try.func5 Go.Proofs.Try.ntmps5 rfl (by kernel_rfl) (by kernel_rfl) ?_
  intro act0 En0
  have Hv0 : Ev w [] w [] := Ev.refl (Heap.nil _)
  refine wp_seq ?_
  refine region_from ?_  -- region 0
  refine from_op (by kernel_rfl) ?_
  refine op_newbox (d := some 3) (T := 34) (v := .agg #[.slice a_va (List.length va) c_va, .slice a_vb (List.length vb) c_vb]) (cs := [.slice a_va (List.length va) c_va, .slice a_vb (List.length vb) c_vb]) En0 (by kernel_rfl) rfl Hv0 ?_
  intro ac2 wo3 bk1 En4 Hv5
  refine d_pures [(1, .slice a_s (List.length s) c_s), (2, .slice a_d (List.length d) c_d), (3, .pointer (some ⟨bk1, 0, none⟩)), (6, .bool false)] [.bool false] 2 En4 (by kernel_rfl) (by kernel_rfl) rfl ?_
  intro ac6 En7
  refine from_end (by kernel_rfl) ?_
  refine then_normal ?_
  refine wp_seq ?_
  refine region_from ?_  -- region 1
  refine from_op (by kernel_rfl) ?_
  have hM8 : Heap wo3 [] := Hv5.heap.pick [] (by kernel_rfl) (by decide)
  refine op_call (d := some 10) (f := 8) (args := #[]) En7 (by kernel_rfl) ((head_ok _).mono ?_)
  rintro _ wo10 ⟨rfl, he13⟩
  refine ⟨_, rfl, ?_⟩
  intro ac9 En11
  have Hv12 : Ev w [] wo10 [.box bk1 [.slice a_va (List.length va) c_va, .slice a_vb (List.length vb) c_vb] 34] := Hv5.trans (Ev.call (R := [.box bk1 [.slice a_va (List.length va) c_va, .slice a_vb (List.length vb) c_vb] 34]) Hv5.heap [0] (by kernel_rfl) (by decide) he13)
  clear hM8 he13
  refine d_pures [(1, .slice a_s (List.length s) c_s), (2, .slice a_d (List.length d) c_d), (3, .pointer (some ⟨bk1, 0, none⟩)), (6, .bool false), (7, .bool true)] [.bool true] 2 En11 (by kernel_rfl) (by kernel_rfl) rfl ?_
  intro ac14 En15
  refine from_end (by kernel_rfl) ?_
  refine then_normal ?_
  refine wp_seq ?_
  refine region_cut (F := fun ac wo => Env ac 37 [(1, .slice a_s (List.length s) c_s), (2, .slice a_d (List.length d) c_d), (6, .bool false), (7, .bool true), (8, .bool true)] ∧ Ev w [] wo []) ?_ ?_
  ·
    refine draw_any (by kernel_rfl) 6 (by kernel_rfl) ?_  -- region 2
    have wo16 := Hv12.trans (Ev.drew Hv12.heap)
    refine any_two 0 2 (by kernel_rfl) ?_ ?_
    · rintro _ rfl
      refine op_loadaggbox (d := some 11) (t := 34) (b := bk1) (off := 0) (k := 0) (m := 2) (xs := [.slice a_va (List.length va) c_va, .slice a_vb (List.length vb) c_vb]) En15 (by kernel_rfl) wo16 rfl rfl rfl (by kernel_rfl) (by kernel_rfl) ?_
      intro ac17 En18
      refine any_two 1 2 (by kernel_rfl) ?_ ?_
      · rintro _ rfl
        have hM19 : Heap wo10.drew [] := wo16.heap.pick [] (by kernel_rfl) (by decide)
        refine op_call (d := some 12) (f := 11) (args := #[.agg #[.slice a_va (List.length va) c_va, .slice a_vb (List.length vb) c_vb]]) En18 (by kernel_rfl) ((break_go _ a_va (List.length va) c_va va (by first | rfl | (simp; done) | (simp; omega) | omega) (i_va.go wo16 [] (by kernel_rfl) (fun _ h => (InB.ev h wo16).pick [] (by kernel_rfl))) a_vb (List.length vb) c_vb vb (by first | rfl | (simp; done) | (simp; omega) | omega) (i_vb.go wo16 [] (by kernel_rfl) (fun _ h => (InB.ev h wo16).pick [] (by kernel_rfl)))).mono ?_)
        rintro _ wo21 ⟨rfl, he24⟩
        refine ⟨_, rfl, ?_⟩
        intro ac20 En22
        have Hv23 : Ev w [] wo21 [.box bk1 [.slice a_va (List.length va) c_va, .slice a_vb (List.length vb) c_vb] 34] := wo16.trans (Ev.call (R := [.box bk1 [.slice a_va (List.length va) c_va, .slice a_vb (List.length vb) c_vb] 34]) wo16.heap [0] (by kernel_rfl) (by decide) he24)
        clear hM19 he24
        refine any_at 2 (by kernel_rfl) rfl ?_
        refine op_loadaggbox (d := some 13) (t := 34) (b := bk1) (off := 0) (k := 0) (m := 2) (xs := [.slice a_va (List.length va) c_va, .slice a_vb (List.length vb) c_vb]) En22 (by kernel_rfl) Hv23 rfl rfl rfl (by kernel_rfl) (by kernel_rfl) ?_
        intro ac25 En26
        refine any_at 3 (by kernel_rfl) rfl ?_
        have hM27 : Heap wo21 [] := Hv23.heap.pick [] (by kernel_rfl) (by decide)
        refine op_call (d := some 14) (f := 12) (args := #[.agg #[.slice a_va (List.length va) c_va, .slice a_vb (List.length vb) c_vb]]) En26 (by kernel_rfl) ((break_ref _ a_va (List.length va) c_va va (by first | rfl | (simp; done) | (simp; omega) | omega) (i_va.go Hv23 [] (by kernel_rfl) (fun _ h => (InB.ev h Hv23).pick [] (by kernel_rfl))) a_vb (List.length vb) c_vb vb (by first | rfl | (simp; done) | (simp; omega) | omega) (i_vb.go Hv23 [] (by kernel_rfl) (fun _ h => (InB.ev h Hv23).pick [] (by kernel_rfl)))).mono ?_)
        rintro _ wo29 ⟨rfl, he32⟩
        refine ⟨_, rfl, ?_⟩
        intro ac28 En30
        have Hv31 : Ev w [] wo29 [.box bk1 [.slice a_va (List.length va) c_va, .slice a_vb (List.length vb) c_vb] 34] := Hv23.trans (Ev.call (R := [.box bk1 [.slice a_va (List.length va) c_va, .slice a_vb (List.length vb) c_vb] 34]) Hv23.heap [0] (by kernel_rfl) (by decide) he32)
        clear hM27 he32
        refine any_pureR (d := some 15) En30 (v := .bool (brkF vb va == brkF vb va)) 4 (by kernel_rfl) (by kernel_rfl) rfl ?_
        intro ac33 En34
        rw [show (brkF vb va == brkF vb va) = true from (by simp)] at En34
        refine any_pureR (d := some 8) En34 (v := .bool true) 5 (by kernel_rfl) (by kernel_rfl) rfl ?_
        intro ac35 En36
        exact any_end (by kernel_rfl) ⟨En36.sub (by kernel_rfl), Hv31.pick [] (by kernel_rfl) (by decide)⟩
      · rintro _ rfl
        refine op_loadaggbox (d := some 13) (t := 34) (b := bk1) (off := 0) (k := 0) (m := 2) (xs := [.slice a_va (List.length va) c_va, .slice a_vb (List.length vb) c_vb]) En18 (by kernel_rfl) wo16 rfl rfl rfl (by kernel_rfl) (by kernel_rfl) ?_
        intro ac37 En38
        refine any_at 1 (by kernel_rfl) rfl ?_
        have hM39 : Heap wo10.drew [] := wo16.heap.pick [] (by kernel_rfl) (by decide)
        refine op_call (d := some 12) (f := 11) (args := #[.agg #[.slice a_va (List.length va) c_va, .slice a_vb (List.length vb) c_vb]]) En38 (by kernel_rfl) ((break_go _ a_va (List.length va) c_va va (by first | rfl | (simp; done) | (simp; omega) | omega) (i_va.go wo16 [] (by kernel_rfl) (fun _ h => (InB.ev h wo16).pick [] (by kernel_rfl))) a_vb (List.length vb) c_vb vb (by first | rfl | (simp; done) | (simp; omega) | omega) (i_vb.go wo16 [] (by kernel_rfl) (fun _ h => (InB.ev h wo16).pick [] (by kernel_rfl)))).mono ?_)
        rintro _ wo41 ⟨rfl, he44⟩
        refine ⟨_, rfl, ?_⟩
        intro ac40 En42
        have Hv43 : Ev w [] wo41 [.box bk1 [.slice a_va (List.length va) c_va, .slice a_vb (List.length vb) c_vb] 34] := wo16.trans (Ev.call (R := [.box bk1 [.slice a_va (List.length va) c_va, .slice a_vb (List.length vb) c_vb] 34]) wo16.heap [0] (by kernel_rfl) (by decide) he44)
        clear hM39 he44
        refine any_at 3 (by kernel_rfl) rfl ?_
        have hM45 : Heap wo41 [] := Hv43.heap.pick [] (by kernel_rfl) (by decide)
        refine op_call (d := some 14) (f := 12) (args := #[.agg #[.slice a_va (List.length va) c_va, .slice a_vb (List.length vb) c_vb]]) En42 (by kernel_rfl) ((break_ref _ a_va (List.length va) c_va va (by first | rfl | (simp; done) | (simp; omega) | omega) (i_va.go Hv43 [] (by kernel_rfl) (fun _ h => (InB.ev h Hv43).pick [] (by kernel_rfl))) a_vb (List.length vb) c_vb vb (by first | rfl | (simp; done) | (simp; omega) | omega) (i_vb.go Hv43 [] (by kernel_rfl) (fun _ h => (InB.ev h Hv43).pick [] (by kernel_rfl)))).mono ?_)
        rintro _ wo47 ⟨rfl, he50⟩
        refine ⟨_, rfl, ?_⟩
        intro ac46 En48
        have Hv49 : Ev w [] wo47 [.box bk1 [.slice a_va (List.length va) c_va, .slice a_vb (List.length vb) c_vb] 34] := Hv43.trans (Ev.call (R := [.box bk1 [.slice a_va (List.length va) c_va, .slice a_vb (List.length vb) c_vb] 34]) Hv43.heap [0] (by kernel_rfl) (by decide) he50)
        clear hM45 he50
        refine any_pureR (d := some 15) En48 (v := .bool (brkF vb va == brkF vb va)) 4 (by kernel_rfl) (by kernel_rfl) rfl ?_
        intro ac51 En52
        rw [show (brkF vb va == brkF vb va) = true from (by simp)] at En52
        refine any_pureR (d := some 8) En52 (v := .bool true) 5 (by kernel_rfl) (by kernel_rfl) rfl ?_
        intro ac53 En54
        exact any_end (by kernel_rfl) ⟨En54.sub (by kernel_rfl), Hv49.pick [] (by kernel_rfl) (by decide)⟩
    · rintro _ rfl
      refine op_loadaggbox (d := some 13) (t := 34) (b := bk1) (off := 0) (k := 0) (m := 2) (xs := [.slice a_va (List.length va) c_va, .slice a_vb (List.length vb) c_vb]) En15 (by kernel_rfl) wo16 rfl rfl rfl (by kernel_rfl) (by kernel_rfl) ?_
      intro ac55 En56
      refine any_at 0 (by kernel_rfl) rfl ?_
      refine op_loadaggbox (d := some 11) (t := 34) (b := bk1) (off := 0) (k := 0) (m := 2) (xs := [.slice a_va (List.length va) c_va, .slice a_vb (List.length vb) c_vb]) En56 (by kernel_rfl) wo16 rfl rfl rfl (by kernel_rfl) (by kernel_rfl) ?_
      intro ac57 En58
      refine any_at 1 (by kernel_rfl) rfl ?_
      have hM59 : Heap wo10.drew [] := wo16.heap.pick [] (by kernel_rfl) (by decide)
      refine op_call (d := some 12) (f := 11) (args := #[.agg #[.slice a_va (List.length va) c_va, .slice a_vb (List.length vb) c_vb]]) En58 (by kernel_rfl) ((break_go _ a_va (List.length va) c_va va (by first | rfl | (simp; done) | (simp; omega) | omega) (i_va.go wo16 [] (by kernel_rfl) (fun _ h => (InB.ev h wo16).pick [] (by kernel_rfl))) a_vb (List.length vb) c_vb vb (by first | rfl | (simp; done) | (simp; omega) | omega) (i_vb.go wo16 [] (by kernel_rfl) (fun _ h => (InB.ev h wo16).pick [] (by kernel_rfl)))).mono ?_)
      rintro _ wo61 ⟨rfl, he64⟩
      refine ⟨_, rfl, ?_⟩
      intro ac60 En62
      have Hv63 : Ev w [] wo61 [.box bk1 [.slice a_va (List.length va) c_va, .slice a_vb (List.length vb) c_vb] 34] := wo16.trans (Ev.call (R := [.box bk1 [.slice a_va (List.length va) c_va, .slice a_vb (List.length vb) c_vb] 34]) wo16.heap [0] (by kernel_rfl) (by decide) he64)
      clear hM59 he64
      refine any_at 3 (by kernel_rfl) rfl ?_
      have hM65 : Heap wo61 [] := Hv63.heap.pick [] (by kernel_rfl) (by decide)
      refine op_call (d := some 14) (f := 12) (args := #[.agg #[.slice a_va (List.length va) c_va, .slice a_vb (List.length vb) c_vb]]) En62 (by kernel_rfl) ((break_ref _ a_va (List.length va) c_va va (by first | rfl | (simp; done) | (simp; omega) | omega) (i_va.go Hv63 [] (by kernel_rfl) (fun _ h => (InB.ev h Hv63).pick [] (by kernel_rfl))) a_vb (List.length vb) c_vb vb (by first | rfl | (simp; done) | (simp; omega) | omega) (i_vb.go Hv63 [] (by kernel_rfl) (fun _ h => (InB.ev h Hv63).pick [] (by kernel_rfl)))).mono ?_)
      rintro _ wo67 ⟨rfl, he70⟩
      refine ⟨_, rfl, ?_⟩
      intro ac66 En68
      have Hv69 : Ev w [] wo67 [.box bk1 [.slice a_va (List.length va) c_va, .slice a_vb (List.length vb) c_vb] 34] := Hv63.trans (Ev.call (R := [.box bk1 [.slice a_va (List.length va) c_va, .slice a_vb (List.length vb) c_vb] 34]) Hv63.heap [0] (by kernel_rfl) (by decide) he70)
      clear hM65 he70
      refine any_pureR (d := some 15) En68 (v := .bool (brkF vb va == brkF vb va)) 4 (by kernel_rfl) (by kernel_rfl) rfl ?_
      intro ac71 En72
      rw [show (brkF vb va == brkF vb va) = true from (by simp)] at En72
      refine any_pureR (d := some 8) En72 (v := .bool true) 5 (by kernel_rfl) (by kernel_rfl) rfl ?_
      intro ac73 En74
      exact any_end (by kernel_rfl) ⟨En74.sub (by kernel_rfl), Hv69.pick [] (by kernel_rfl) (by decide)⟩
  rintro ac75 wo76 ⟨En77, Hv78⟩
  refine then_normal ?_
  refine wp_seq ?_
  refine region_from ?_  -- region 3
  refine d_pures [(1, .slice a_s (List.length s) c_s), (2, .slice a_d (List.length d) c_d), (6, .bool false), (7, .bool true), (8, .bool true), (16, .slice a_s (List.length s) c_s), (17, .slice a_d (List.length d) c_d)] [.slice a_s (List.length s) c_s, .slice a_d (List.length d) c_d] 2 En77 (by kernel_rfl) (by kernel_rfl) rfl ?_
  intro ac79 En80
  refine from_op (by kernel_rfl) ?_
  have hM81 : Heap wo76 [] := Hv78.heap.pick [] (by kernel_rfl) (by decide)
  refine op_call (d := some 18) (f := 13) (args := #[.slice a_s (List.length s) c_s, .slice a_d (List.length d) c_d]) En80 (by kernel_rfl) ((forged_go _ a_s (List.length s) c_s s (by first | rfl | (simp; done) | (simp; omega) | omega) (i_s.go Hv78 [] (by kernel_rfl) (fun _ h => (InB.ev h Hv78).pick [] (by kernel_rfl))) a_d (List.length d) c_d d (by first | rfl | (simp; done) | (simp; omega) | omega) (i_d.go Hv78 [] (by kernel_rfl) (fun _ h => (InB.ev h Hv78).pick [] (by kernel_rfl)))).mono ?_)
  rintro _ wo83 ⟨rfl, he86⟩
  refine ⟨_, rfl, ?_⟩
  intro ac82 En84
  have Hv85 : Ev w [] wo83 [] := Hv78.trans (Ev.call (R := []) Hv78.heap [] (by kernel_rfl) (by decide) he86)
  clear hM81 he86
  refine d_pures [(2, .slice a_d (List.length d) c_d), (6, .bool false), (7, .bool true), (8, .bool true), (18, .int .i64 (forgF s d)), (19, .slice a_s (List.length s) c_s), (20, .slice a_d (List.length d) c_d)] [.slice a_s (List.length s) c_s, .slice a_d (List.length d) c_d] 5 En84 (by kernel_rfl) (by kernel_rfl) rfl ?_
  intro ac87 En88
  refine from_op (by kernel_rfl) ?_
  have hM89 : Heap wo83 [] := Hv85.heap.pick [] (by kernel_rfl) (by decide)
  refine op_call (d := some 21) (f := 14) (args := #[.slice a_s (List.length s) c_s, .slice a_d (List.length d) c_d]) En88 (by kernel_rfl) ((forged_ref _ a_s (List.length s) c_s s (by first | rfl | (simp; done) | (simp; omega) | omega) (i_s.go Hv85 [] (by kernel_rfl) (fun _ h => (InB.ev h Hv85).pick [] (by kernel_rfl))) a_d (List.length d) c_d d (by first | rfl | (simp; done) | (simp; omega) | omega) (i_d.go Hv85 [] (by kernel_rfl) (fun _ h => (InB.ev h Hv85).pick [] (by kernel_rfl)))).mono ?_)
  rintro _ wo91 ⟨rfl, he94⟩
  refine ⟨_, rfl, ?_⟩
  intro ac90 En92
  have Hv93 : Ev w [] wo91 [] := Hv85.trans (Ev.call (R := []) Hv85.heap [] (by kernel_rfl) (by decide) he94)
  clear hM89 he94
  refine d_pures [(2, .slice a_d (List.length d) c_d), (6, .bool false), (7, .bool true), (8, .bool true), (22, .bool (forgF s d == forgF s d))] [.bool (forgF s d == forgF s d)] 7 En92 (by kernel_rfl) (by kernel_rfl) rfl ?_
  intro ac95 En96
  rw [show (forgF s d == forgF s d) = true from (by simp)] at En96
  refine d_pures [(2, .slice a_d (List.length d) c_d), (6, .bool false), (7, .bool true), (8, .bool true), (9, .bool true)] [.bool true] 8 En96 (by kernel_rfl) (by kernel_rfl) rfl ?_
  intro ac97 En98
  refine from_end (by kernel_rfl) ?_
  refine then_normal ?_
  refine wp_seq ?_
  refine region_from ?_  -- region 4
  refine d_pures [(2, .slice a_d (List.length d) c_d), (6, .bool false), (30, .bool true), (31, .slice a_d (List.length d) c_d)] [.bool true, .bool true, .bool true, .bool true, .bool true, .bool true, .bool true, .bool true, .slice a_d (List.length d) c_d] 9 En98 (by kernel_rfl) (by kernel_rfl) rfl ?_
  intro ac99 En100
  refine from_op (by kernel_rfl) ?_
  have hM101 : Heap wo91 [] := Hv93.heap.pick [] (by kernel_rfl) (by decide)
  refine op_call (d := some 32) (f := 15) (args := #[.slice a_d (List.length d) c_d]) En100 (by kernel_rfl) ((repeats_go _ a_d (List.length d) c_d d (by first | rfl | (simp; done) | (simp; omega) | omega) (i_d.go Hv93 [] (by kernel_rfl) (fun _ h => (InB.ev h Hv93).pick [] (by kernel_rfl)))).mono ?_)
  rintro _ wo103 ⟨rfl, he106⟩
  refine ⟨_, rfl, ?_⟩
  intro ac102 En104
  have Hv105 : Ev w [] wo103 [] := Hv93.trans (Ev.call (R := []) Hv93.heap [] (by kernel_rfl) (by decide) he106)
  clear hM101 he106
  refine d_pures [(2, .slice a_d (List.length d) c_d), (6, .bool false), (30, .bool true), (32, .int .i64 (repF d)), (33, .slice a_d (List.length d) c_d)] [.slice a_d (List.length d) c_d] 11 En104 (by kernel_rfl) (by kernel_rfl) rfl ?_
  intro ac107 En108
  refine from_op (by kernel_rfl) ?_
  have hM109 : Heap wo103 [] := Hv105.heap.pick [] (by kernel_rfl) (by decide)
  refine op_call (d := some 34) (f := 16) (args := #[.slice a_d (List.length d) c_d]) En108 (by kernel_rfl) ((repeats_ref _ a_d (List.length d) c_d d (by first | rfl | (simp; done) | (simp; omega) | omega) (i_d.go Hv105 [] (by kernel_rfl) (fun _ h => (InB.ev h Hv105).pick [] (by kernel_rfl)))).mono ?_)
  rintro _ wo111 ⟨rfl, he114⟩
  refine ⟨_, rfl, ?_⟩
  intro ac110 En112
  have Hv113 : Ev w [] wo111 [] := Hv105.trans (Ev.call (R := []) Hv105.heap [] (by kernel_rfl) (by decide) he114)
  clear hM109 he114
  refine d_pures [(2, .slice a_d (List.length d) c_d), (6, .bool false), (30, .bool true), (35, .bool (repF d == repF d))] [.bool (repF d == repF d)] 13 En112 (by kernel_rfl) (by kernel_rfl) rfl ?_
  intro ac115 En116
  rw [show (repF d == repF d) = true from (by simp)] at En116
  refine d_pures [(2, .slice a_d (List.length d) c_d), (6, .bool true)] [.bool true, .bool true] 15 En116 (by kernel_rfl) (by kernel_rfl) rfl ?_
  intro ac117 En118
  refine from_end (by kernel_rfl) ?_
  refine then_normal ?_
  refine wp_ret ?_
  refine d_ret1 (t := 6) (v := .bool true) En118 (by kernel_rfl) (by kernel_rfl) ?_
  exact ⟨rfl, Hv113.pick [] (by kernel_rfl) (by decide)⟩

end Go.Proofs.Ytjecaljhipfbfaa
