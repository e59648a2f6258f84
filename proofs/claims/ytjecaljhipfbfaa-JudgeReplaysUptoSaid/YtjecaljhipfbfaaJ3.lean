/- Layer 24: sets of texts, copies, the head. -/
import Derived.Test.YtjecaljhipfbfaaJ2
namespace Go.Proofs.Ytjecaljhipfbfaa
open Go.Dbr
set_option maxRecDepth 100000
set_option linter.unusedVariables false
/-- the first place at which p holds; -1: there is none -/
def firstAt (p : Nat → Bool) (n : Nat) : Int := match (List.range n).find? p with
  | some i => ((i : Nat) : Int)
  | none => -1
theorem firstAt_yes {p : Nat → Bool} {n i : Nat} (hi : i < n) (hp : p i = true) (hn : ∀ j, j < i → p j = false) : firstAt p n = ((i : Nat) : Int) := by
  unfold firstAt
  have : (List.range n).find? p = some i := by
    rw [List.find?_range_eq_some]
    exact ⟨hp, by simpa using hi, fun j hj => by rw [hn j hj]; rfl⟩
  rw [this]
theorem firstAt_no {p : Nat → Bool} {n : Nat} (hn : ∀ j, j < n → p j = false) : firstAt p n = -1 := by
  unfold firstAt
  have : (List.range n).find? p = none := by
    rw [List.find?_eq_none]
    intro j hj
    rw [hn j (by simpa using hj)]
    simp
  rw [this]
def textsOf (l : List (Sl UInt8)) : List (List UInt8) := l.map fun s => s.l
def repF (l : List (Sl UInt8)) : Int := firstAt (fun i => decide ((textsOf l).getD i [] ∈ (textsOf l).take i)) l.length
theorem texts_at {l : List (Sl UInt8)} {i : Nat} {x : Sl UInt8} (h : l[i]? = some x) : (textsOf l).getD i [] = x.l := by simp [textsOf, List.getD, h]
theorem texts_take {l : List (Sl UInt8)} {i : Nat} {x : Sl UInt8} (h : l[i]? = some x) (y : List UInt8) : y ∈ (textsOf l).take (i + 1) ↔ y = x.l ∨ y ∈ (textsOf l).take i := by
  rw [List.take_add_one]
  simp [textsOf, h, or_comm]

theorem repeats_go (w : World) (ax : Option Addr) (nx cx : Nat) (lx : List (Sl UInt8)) (ex : nx = List.length lx) (ix : InS (fun s : Sl UInt8 => s.f) 24 (fun x : Sl UInt8 => InB w [] x.a x.c x.l) w [] ax cx lx) : Calls Try.prog 15 #[.slice ax nx cx] w fun e w' => e = .returned (.int .i64 (repF lx)) ∧ Ev w [] w' [] := by
  subst ex
  have hss := ix.small
  have hc2 := ix.cap
  refine d_start [(0, .slice ax (List.length lx) cx)] 23 Go.Proofs.Try.func15 Go.Proofs.Try.ntmps15 rfl (by kernel_rfl) (by kernel_rfl) ?_
  intro act0 En0
  have Hv0 : Ev w [] w [] := Ev.refl (Heap.nil _)
  refine wp_seq ?_
  refine region_from ?_  -- region 0
  refine d_pures [(0, .slice ax (List.length lx) cx), (2, .int .i64 0)] [.int .i64 0] 1 En0 (by kernel_rfl) (by kernel_rfl) rfl ?_
  intro ac1 En2
  refine from_end (by kernel_rfl) ?_
  refine then_normal ?_
  refine wp_seq ?_
  refine region_from ?_  -- region 1
  refine from_op (by kernel_rfl) ?_
  refine op_makemap (d := some 6) (t := 59) En2 (by kernel_rfl) Hv0 ?_
  intro ac4 wo5 bk3 En6 Hv7
  replace Hv7 : Ev w [] wo5 [.map bk3 (kvs Value.bool (setKV []))] := Hv7
  refine d_pures [(0, .slice ax (List.length lx) cx), (2, .int .i64 0), (3, .map (some bk3))] [.map (some bk3)] 2 En6 (by kernel_rfl) (by kernel_rfl) rfl ?_
  intro ac8 En9
  refine from_end (by kernel_rfl) ?_
  refine then_normal ?_
  refine wp_seq ?_
  refine wp_seq ?_
  refine region_from ?_  -- region 2
  refine d_pures [(2, .int .i64 0), (3, .map (some bk3)), (7, .slice ax (List.length lx) cx), (8, .int .i64 ((List.length lx : Nat) : Int)), (9, .int .i64 0)] [.slice ax (List.length lx) cx, .int .i64 ((List.length lx : Nat) : Int), .int .i64 0] 3 En9 (by kernel_rfl) (by kernel_rfl) rfl ?_
  intro ac10 En11
  refine from_end (by kernel_rfl) ?_
  refine then_normal ?_
  refine wp_block ?_
  refine loop_m (fun ms12 ac wo => ∃ (k : Nat) (s : List (List UInt8)), ms12 = (List.length lx - k : Nat) ∧ Env ac 23 [(3, .map (some bk3)), (7, .slice ax (List.length lx) cx), (8, .int .i64 ((List.length lx : Nat) : Int)), (9, .int .i64 ((k : Nat) : Int))] ∧ Ev w [] wo [.map bk3 (kvs Value.bool (setKV s))] ∧ (k ≤ List.length lx) ∧ (∀ y, y ∈ s ↔ y ∈ List.take k (textsOf lx)) ∧ (∀ j, j < k → decide ((textsOf lx).getD j [] ∈ (textsOf lx).take j) = false)) ⟨_, 0, [], rfl, En11.sub (by kernel_rfl), Hv7.pick [0] (by kernel_rfl) (by decide), by omega, fun y => by simp, fun j hj => by omega⟩ ?_
  rintro mm18 ac14 wo15 ⟨k, s, rfl, En16, Hv17, hk, hs1, hn1⟩
  refine wp_seq ?_
  refine region_from ?_  -- region 3
  refine d_pures [(3, .map (some bk3)), (7, .slice ax (List.length lx) cx), (8, .int .i64 ((List.length lx : Nat) : Int)), (9, .int .i64 ((k : Nat) : Int)), (10, .bool (decide (((k : Nat) : Int) < ((List.length lx : Nat) : Int))))] [.bool (decide (((k : Nat) : Int) < ((List.length lx : Nat) : Int)))] 1 En16 (by kernel_rfl) (by kernel_rfl) rfl ?_
  intro ac19 En20
  refine from_end (by kernel_rfl) ?_
  refine then_normal ?_
  refine wp_seq ?_
  refine cond_at En20 (t := decide (((k : Nat) : Int) < ((List.length lx : Nat) : Int))) (by kernel_rfl) (fun hc21 => ?_) (fun hc21 => ?_)
  ·
    replace hc21 : ((k : Nat) : Int) < ((List.length lx : Nat) : Int) := of_decide_eq_true hc21
    refine wp_skip ?_
    refine then_normal ?_
    refine wp_seq ?_
    refine wp_block ?_
    refine wp_seq ?_
    refine region_from ?_  -- region 4
    refine d_pures [(3, .map (some bk3)), (7, .slice ax (List.length lx) cx), (8, .int .i64 ((List.length lx : Nat) : Int)), (9, .int .i64 ((k : Nat) : Int)), (11, .int .i64 ((k : Nat) : Int))] [.int .i64 ((k : Nat) : Int)] 1 En20 (by kernel_rfl) (by kernel_rfl) rfl ?_
    intro ac22 En23
    refine from_op (by kernel_rfl) ?_
    refine op_index (d := some 12) (t := 32) (e := 22) (sz := 1) (len := List.length lx) (cap := cx) (j := k) (ao := ax) (k := .i64) (ix := ((k : Nat) : Int)) En23 (by kernel_rfl) ix.nz (by kernel_rfl) (by kernel_rfl) (by omega) (by omega) (jo := k) (Nat.mul_one _) ?_
    intro ac26 adr24 had25 En27
    have hb28 : k < List.length lx := by omega
    obtain ⟨⟨a_x30, c_x30, x30⟩, hx29⟩ : ∃ x, (lx)[k]? = some x := ⟨_, List.getElem?_eq_getElem hb28⟩
    obtain i_x30 := ix.each _ (List.mem_of_getElem? hx29)
    replace i_x30 : InB w [] a_x30 c_x30 x30 := i_x30
    refine from_op (by kernel_rfl) ?_
    refine op_loadf (d := some 13) (t := 22) (ad := adr24) (ao := ax) (ys := List.flatMap (fun s : Sl UInt8 => s.f) lx) (o := k) (v := .slice a_x30 (List.length x30) c_x30) En27 (by kernel_rfl) rfl (ix.ro.ev Hv17).reads had25 ((flat_get1 (fun _ _ => rfl) hx29).trans rfl) (by kernel_rfl) ?_
    intro ac31 En32
    refine d_pures [(3, .map (some bk3)), (4, .int .i64 ((k : Nat) : Int)), (5, .slice a_x30 (List.length x30) c_x30), (7, .slice ax (List.length lx) cx), (8, .int .i64 ((List.length lx : Nat) : Int)), (9, .int .i64 ((k : Nat) : Int))] [.int .i64 ((k : Nat) : Int), .slice a_x30 (List.length x30) c_x30] 5 En32 (by kernel_rfl) (by kernel_rfl) rfl ?_
    intro ac33 En34
    refine from_end (by kernel_rfl) ?_
    refine then_normal ?_
    refine wp_seq ?_
    refine wp_seq ?_
    refine region_from ?_  -- region 5
    refine d_pures [(3, .map (some bk3)), (4, .int .i64 ((k : Nat) : Int)), (5, .slice a_x30 (List.length x30) c_x30), (7, .slice ax (List.length lx) cx), (8, .int .i64 ((List.length lx : Nat) : Int)), (9, .int .i64 ((k : Nat) : Int)), (14, .map (some bk3)), (15, .slice a_x30 (List.length x30) c_x30)] [.map (some bk3), .slice a_x30 (List.length x30) c_x30] 2 En34 (by kernel_rfl) (by kernel_rfl) rfl ?_
    intro ac35 En36
    refine from_op (by kernel_rfl) ?_
    refine op_str (d := some 16) (src := 22) (dst := 9) (e := 5) (ao := a_x30) (cap := c_x30) (p := List.length x30) (bs := x30) En36 (by kernel_rfl) rfl (by kernel_rfl) (by kernel_rfl) (by kernel_rfl) (i_x30.ev Hv17).reads i_x30.nz ?_
    intro ac37 En38
    refine from_op (by kernel_rfl) ?_
    refine op_lookup (d := some 17) (t := 59) (kt := 9) (et := 4) (b := bk3) (j := 0) (k := x30) (m := setKV s) (f := Value.bool) (z := .bool false) (v := .bool (decide (x30 ∈ s))) (ok := false) En38 (by kernel_rfl) Hv17 rfl (by kernel_rfl) (by kernel_rfl) (by kernel_rfl) (set_at s x30) ?_
    intro ac39 En40
    refine from_end (by kernel_rfl) ?_
    refine then_normal ?_
    refine cond_at En40 (t := decide (x30 ∈ s)) (by kernel_rfl) (fun hc41 => ?_) (fun hc41 => ?_)
    ·
      replace hc41 : x30 ∈ s := of_decide_eq_true hc41
      refine wp_seq ?_
      refine region_from ?_  -- region 6
      refine d_pures [(2, .int .i64 ((k : Nat) : Int)), (3, .map (some bk3)), (5, .slice a_x30 (List.length x30) c_x30), (7, .slice ax (List.length lx) cx), (8, .int .i64 ((List.length lx : Nat) : Int)), (9, .int .i64 ((k : Nat) : Int))] [.int .i64 ((k : Nat) : Int), .int .i64 ((k : Nat) : Int)] 2 En40 (by kernel_rfl) (by kernel_rfl) rfl ?_
      intro ac42 En43
      refine from_end (by kernel_rfl) ?_
      refine then_normal ?_
      refine wp_ret ?_
      refine then_ret ?_
      refine block_ret ?_
      refine then_ret ?_
      refine then_ret ?_
      refine block_ret ?_
      refine then_ret ?_
      refine d_ret1 (t := 2) (v := .int .i64 ((k : Nat) : Int)) En43 (by kernel_rfl) (by kernel_rfl) ?_
      have e : repF lx = ((k : Nat) : Int) := firstAt_yes (by omega) (by rw [texts_at hx29]; exact decide_eq_true ((hs1 _).1 hc41)) hn1
      exact ⟨by rw [e], Hv17.pick [] (by kernel_rfl) (by decide)⟩
    ·
      replace hc41 : ¬ (x30 ∈ s) := of_decide_eq_false hc41
      refine wp_skip ?_
      refine then_normal ?_
      refine region_from ?_  -- region 7
      refine d_pures [(3, .map (some bk3)), (4, .int .i64 ((k : Nat) : Int)), (5, .slice a_x30 (List.length x30) c_x30), (7, .slice ax (List.length lx) cx), (8, .int .i64 ((List.length lx : Nat) : Int)), (9, .int .i64 ((k : Nat) : Int)), (19, .map (some bk3)), (20, .slice a_x30 (List.length x30) c_x30)] [.map (some bk3), .slice a_x30 (List.length x30) c_x30] 2 En40 (by kernel_rfl) (by kernel_rfl) rfl ?_
      intro ac44 En45
      refine from_op (by kernel_rfl) ?_
      refine op_str (d := some 21) (src := 22) (dst := 9) (e := 5) (ao := a_x30) (cap := c_x30) (p := List.length x30) (bs := x30) En45 (by kernel_rfl) rfl (by kernel_rfl) (by kernel_rfl) (by kernel_rfl) (i_x30.ev Hv17).reads i_x30.nz ?_
      intro ac46 En47
      refine from_op (by kernel_rfl) ?_
      refine op_update (d := none) (t := 59) (kt := 9) (et := 4) (b := bk3) (j := 0) (k := x30) (m := setKV s) (f := Value.bool) (v := true) (V := .bool true) En47 (by kernel_rfl) rfl Hv17 rfl (by kernel_rfl) (by kernel_rfl) ?_
      intro ac48 wo49  En50 Hv51
      rw [set_put] at Hv51
      refine from_end (by kernel_rfl) ?_
      refine block_normal ?_
      refine then_normal ?_
      refine region_from ?_  -- region 8
      refine d_pures [(3, .map (some bk3)), (4, .int .i64 ((k : Nat) : Int)), (5, .slice a_x30 (List.length x30) c_x30), (7, .slice ax (List.length lx) cx), (8, .int .i64 ((List.length lx : Nat) : Int)), (9, .int .i64 ((k : Nat) : Int)), (22, .int .i64 (IntKind.wrap .i64 (((k : Nat) : Int) + (1 : Int))))] [.int .i64 (IntKind.wrap .i64 (((k : Nat) : Int) + (1 : Int)))] 1 En50 (by kernel_rfl) (by kernel_rfl) rfl ?_
      intro ac52 En53
      rw [Go.Dbr.wr64 (e := ((k : Nat) : Int) + (1 : Int)) (x := ((k + 1 : Nat) : Int)) (by omega) (by omega) (by omega)] at En53
      refine d_pures [(3, .map (some bk3)), (4, .int .i64 ((k : Nat) : Int)), (5, .slice a_x30 (List.length x30) c_x30), (7, .slice ax (List.length lx) cx), (8, .int .i64 ((List.length lx : Nat) : Int)), (9, .int .i64 ((k + 1 : Nat) : Int))] [.int .i64 ((k + 1 : Nat) : Int)] 2 En53 (by kernel_rfl) (by kernel_rfl) rfl ?_
      intro ac54 En55
      refine from_end (by kernel_rfl) ?_
      refine then_normal ?_
      refine ⟨_, ⟨k + 1, addKey x30 s, rfl, En55.sub (by kernel_rfl), Hv51.pick [0] (by kernel_rfl) (by decide), by omega, fun y => by rw [mem_addKey, texts_take hx29, hs1 y], fun j hj => (Nat.lt_or_eq_of_le (Nat.le_of_lt_succ hj)).elim (hn1 j) (fun h => by subst h; rw [texts_at hx29]; exact decide_eq_false (by rw [← hs1]; exact hc41))⟩, ?_⟩
      omega
  ·
    replace hc21 : ¬ (((k : Nat) : Int) < ((List.length lx : Nat) : Int)) := of_decide_eq_false hc21
    refine wp_exit ?_
    refine then_exit ?_
    refine then_exit ?_
    refine block_exit ?_
    refine then_normal ?_
    refine wp_seq ?_
    refine region_from ?_  -- region 9
    refine d_pures [(2, .int .i64 (-1)), (3, .map (some bk3)), (7, .slice ax (List.length lx) cx), (8, .int .i64 ((List.length lx : Nat) : Int)), (9, .int .i64 ((k : Nat) : Int))] [.int .i64 (-1)] 1 En20 (by kernel_rfl) (by kernel_rfl) rfl ?_
    intro ac56 En57
    refine from_end (by kernel_rfl) ?_
    refine then_normal ?_
    refine wp_ret ?_
    refine d_ret1 (t := 2) (v := .int .i64 (-1)) En57 (by kernel_rfl) (by kernel_rfl) ?_
    have hkk : k = List.length lx := by omega
    have e : repF lx = -1 := firstAt_no (by rw [← hkk]; exact hn1)
    exact ⟨by rw [e], Hv17.pick [] (by kernel_rfl) (by decide)⟩

theorem clone_go (w : World) (ax : Option Addr) (nx cx : Nat) (lx : List UInt8) (ex : nx = List.length lx) (ix : InB w [] ax cx lx) : Calls Try.prog 35 #[.slice ax nx cx] w fun e w' => ∃ ao co, e = .returned (.slice ao (List.length lx) co) ∧ Ev w [] w' [.vec ao co 1 (bys lx) 5] := by
  subst ex
  have hs := ix.small
  refine d_start [(0, .slice ax (List.length lx) cx)] 8 Go.Proofs.Try.func35 Go.Proofs.Try.ntmps35 rfl (by kernel_rfl) (by kernel_rfl) ?_
  intro act0 En0
  have Hv0 : Ev w [] w [] := Ev.refl (Heap.nil _)
  refine wp_seq ?_
  refine region_from ?_  -- region 0
  refine d_pures [(0, .slice ax (List.length lx) cx), (2, .slice none 0 0)] [.slice none 0 0] 1 En0 (by kernel_rfl) (by kernel_rfl) rfl ?_
  intro ac1 En2
  refine from_end (by kernel_rfl) ?_
  refine then_normal ?_
  refine wp_seq ?_
  refine wp_seq ?_
  refine region_from ?_  -- region 1
  refine d_pures [(0, .slice ax (List.length lx) cx), (2, .slice none 0 0), (3, .slice ax (List.length lx) cx)] [.slice ax (List.length lx) cx] 1 En2 (by kernel_rfl) (by kernel_rfl) rfl ?_
  intro ac3 En4
  refine from_op (by kernel_rfl) ?_
  refine op_val (d := some 4) (x := binOp .eql 22 (.slice ax (List.length lx) cx) (.slice none 0 0)) (v := .bool (Option.isNone ax)) En4 (by kernel_rfl) (Go.Dbr.run_slicenil (e := 5) (by kernel_rfl) ax (List.length lx) cx _) ?_
  intro ac5 En6
  refine from_end (by kernel_rfl) ?_
  refine then_normal ?_
  refine cond_at En6 (t := Option.isNone ax) (by kernel_rfl) (fun hc7 => ?_) (fun hc7 => ?_)
  ·
    replace hc7 : Option.isNone ax = true := hc7
    refine wp_seq ?_
    refine region_from ?_  -- region 2
    refine d_pures [(0, .slice ax (List.length lx) cx), (2, .slice none 0 0)] [.slice none 0 0] 1 En6 (by kernel_rfl) (by kernel_rfl) rfl ?_
    intro ac8 En9
    refine from_end (by kernel_rfl) ?_
    refine then_normal ?_
    refine wp_ret ?_
    refine then_ret ?_
    refine d_ret1 (t := 2) (v := .slice none 0 0) En9 (by kernel_rfl) (by kernel_rfl) ?_
    have ha : ax = none := Option.isNone_iff_eq_none.1 hc7
    have hl : lx = [] := List.eq_nil_of_length_eq_zero (ix.nz ha)
    subst hl
    exact ⟨none, 0, rfl, Ev.nil (sz := 1) (T := 5) Hv0⟩
  ·
    replace hc7 : ¬ (Option.isNone ax = true) := Bool.eq_false_iff.1 hc7
    refine wp_skip ?_
    refine then_normal ?_
    refine wp_seq ?_
    refine region_from ?_  -- region 3
    refine from_op (by kernel_rfl) ?_
    refine op_lit (d := some 5) (t := 22) (T := 5) (m := 0) (parts := #[]) (xs := bys []) (sz := 1) En6 (by kernel_rfl) (by kernel_rfl) rfl (by decide) Hv0 ?_
    intro ac11 wo12 bk10 En13 Hv14
    refine d_pures [(0, .slice ax (List.length lx) cx), (2, .slice none 0 0), (5, .slice (some ⟨bk10, 0, none⟩) 0 0), (6, .slice ax (List.length lx) cx)] [.slice ax (List.length lx) cx] 2 En13 (by kernel_rfl) (by kernel_rfl) rfl ?_
    intro ac15 En16
    refine from_op (by kernel_rfl) ?_
    refine op_append (d := some 7) (t := 22) (tx := 22) (ty := 22) (k := 0) (p := 0) (m := List.length lx) (x := .slice ax (List.length lx) cx) (bytes := 1) En16 (by kernel_rfl) Hv14 rfl rfl (Reads.src (size := 1) (tx := 22) (e' := 5) (by kernel_rfl) (ix.ev Hv14).reads (bys_len _) ix.nz (bys_one _)) (by kernel_rfl) (z := .int .u8 0) (by kernel_rfl) rfl (by decide) (by omega) (by unfold maxLen; omega) ?_
    intro ac21 wo22 ao17 cp18 En23 Hv24 _ _
    rw [bys_nil_append] at Hv24
    have ehz19 : 0 + List.length lx = List.length lx := (by first | (simp; done) | (simp; omega) | omega)
    rw [ehz19] at En23
    refine d_pures [(0, .slice ax (List.length lx) cx), (2, .slice ao17 (List.length lx) cp18)] [.slice ao17 (List.length lx) cp18] 4 En23 (by kernel_rfl) (by kernel_rfl) rfl ?_
    intro ac25 En26
    refine from_end (by kernel_rfl) ?_
    refine then_normal ?_
    refine wp_ret ?_
    refine d_ret1 (t := 2) (v := .slice ao17 (List.length lx) cp18) En26 (by kernel_rfl) (by kernel_rfl) ?_
    exact ⟨ao17, cp18, rfl, Hv24.pick [0] (by kernel_rfl) (by decide)⟩

theorem new_go (w : World) (ax : Option Addr) (nx cx : Nat) (lx : List UInt8) (ex : nx = List.length lx) (ix : InB w [] ax cx lx) : Calls Try.prog 17 #[.slice ax nx cx] w fun e w' => ∃ b ao co au cu, e = .returned (.pointer (some ⟨b, 0, none⟩)) ∧ Ev w [] w' [.box b [.slice ao (List.length lx) co, .bool false, .slice none 0 0, .bool false, .slice au (List.length lx) cu, .slice none 0 0, .slice none 0 0, .bool false, .bool false, .slice none 0 0, .slice none 0 0, .bool false, .bool false] 66, .vec ao co 1 (bys lx) 5, .vec au cu 1 (bys lx) 5] := by
  subst ex
  have hs := ix.small
  refine d_start [(0, .slice ax (List.length lx) cx)] 19 Go.Proofs.Try.func17 Go.Proofs.Try.ntmps17 rfl (by kernel_rfl) (by kernel_rfl) ?_
  intro act0 En0
  have Hv0 : Ev w [] w [] := Ev.refl (Heap.nil _)
  refine wp_seq ?_
  refine region_from ?_  -- region 0
  refine d_pures [(0, .slice ax (List.length lx) cx), (2, .pointer none)] [.pointer none] 1 En0 (by kernel_rfl) (by kernel_rfl) rfl ?_
  intro ac1 En2
  refine from_end (by kernel_rfl) ?_
  refine then_normal ?_
  refine wp_seq ?_
  refine region_from ?_  -- region 1
  refine d_pures [(0, .slice ax (List.length lx) cx), (2, .pointer none), (4, .agg #[.slice none 0 0, .bool false, .slice none 0 0, .bool false, .slice none 0 0, .slice none 0 0, .slice none 0 0, .bool false, .bool false, .slice none 0 0, .slice none 0 0, .bool false, .bool false])] [.agg #[.slice none 0 0, .bool false, .slice none 0 0, .bool false, .slice none 0 0, .slice none 0 0, .slice none 0 0, .bool false, .bool false, .slice none 0 0, .slice none 0 0, .bool false, .bool false]] 1 En2 (by kernel_rfl) (by kernel_rfl) rfl ?_
  intro ac3 En4
  refine from_op (by kernel_rfl) ?_
  refine op_newbox (d := some 5) (T := 66) (v := .agg #[.slice none 0 0, .bool false, .slice none 0 0, .bool false, .slice none 0 0, .slice none 0 0, .slice none 0 0, .bool false, .bool false, .slice none 0 0, .slice none 0 0, .bool false, .bool false]) (cs := [.slice none 0 0, .bool false, .slice none 0 0, .bool false, .slice none 0 0, .slice none 0 0, .slice none 0 0, .bool false, .bool false, .slice none 0 0, .slice none 0 0, .bool false, .bool false]) En4 (by kernel_rfl) rfl Hv0 ?_
  intro ac6 wo7 bk5 En8 Hv9
  refine d_pures [(0, .slice ax (List.length lx) cx), (2, .pointer none), (3, .pointer (some ⟨bk5, 0, none⟩))] [.pointer (some ⟨bk5, 0, none⟩)] 3 En8 (by kernel_rfl) (by kernel_rfl) rfl ?_
  intro ac10 En11
  refine from_end (by kernel_rfl) ?_
  refine then_normal ?_
  refine wp_seq ?_
  refine region_from ?_  -- region 2
  refine d_pures [(0, .slice ax (List.length lx) cx), (2, .pointer none), (3, .pointer (some ⟨bk5, 0, none⟩)), (6, .pointer (some ⟨bk5, 0, none⟩)), (7, .slice ax (List.length lx) cx)] [.pointer (some ⟨bk5, 0, none⟩), .slice ax (List.length lx) cx] 2 En11 (by kernel_rfl) (by kernel_rfl) rfl ?_
  intro ac12 En13
  refine from_op (by kernel_rfl) ?_
  have hM15 : Heap wo7 [] := Hv9.heap.pick [] (by kernel_rfl) (by decide)
  refine op_call (d := some 8) (f := 35) (args := #[.slice ax (List.length lx) cx]) En13 (by kernel_rfl) ((clone_go _ ax (List.length lx) cx lx (by first | rfl | (simp; done) | (simp; omega) | omega) ((ix.ev Hv9).pick [] (by kernel_rfl))).mono ?_)
  rintro _ wo17 ⟨aoq14, coq14, rfl, he20⟩
  refine ⟨_, rfl, ?_⟩
  intro ac16 En18
  have Hv19 : Ev w [] wo17 [.vec aoq14 coq14 1 (bys lx) 5, .box bk5 [.slice none 0 0, .bool false, .slice none 0 0, .bool false, .slice none 0 0, .slice none 0 0, .slice none 0 0, .bool false, .bool false, .slice none 0 0, .slice none 0 0, .bool false, .bool false] 66] := Hv9.trans (Ev.call (R := [.box bk5 [.slice none 0 0, .bool false, .slice none 0 0, .bool false, .slice none 0 0, .slice none 0 0, .slice none 0 0, .bool false, .bool false, .slice none 0 0, .slice none 0 0, .bool false, .bool false] 66]) Hv9.heap [0] (by kernel_rfl) (by decide) he20)
  clear hM15 he20
  refine d_pures [(0, .slice ax (List.length lx) cx), (2, .pointer none), (3, .pointer (some ⟨bk5, 0, none⟩)), (8, .slice aoq14 (List.length lx) coq14), (11, .pointer (some ⟨bk5, 4, none⟩))] [.pointer (some ⟨bk5, 0, none⟩), .pointer (some ⟨bk5, 4, none⟩), .pointer (some ⟨bk5, 4, none⟩)] 6 En18 (by kernel_rfl) (by kernel_rfl) rfl ?_
  intro ac21 En22
  refine from_op (by kernel_rfl) ?_
  refine op_storebox2 (d := none) (t := 22) (b := bk5) (off := 4) (k := 1) (v := .slice aoq14 (List.length lx) coq14) En22 (by kernel_rfl) Hv19 rfl rfl (by kernel_rfl) rfl rfl (L' := [.vec aoq14 coq14 1 (bys lx) 5, .box bk5 [.slice none 0 0, .bool false, .slice none 0 0, .bool false, .slice aoq14 (List.length lx) coq14, .slice none 0 0, .slice none 0 0, .bool false, .bool false, .slice none 0 0, .slice none 0 0, .bool false, .bool false] 66]) rfl ?_
  intro ac23 wo24  En25 Hv26
  refine from_end (by kernel_rfl) ?_
  refine then_normal ?_
  refine wp_seq ?_
  refine region_from ?_  -- region 3
  refine d_pures [(0, .slice ax (List.length lx) cx), (2, .pointer none), (3, .pointer (some ⟨bk5, 0, none⟩)), (12, .pointer (some ⟨bk5, 0, none⟩)), (13, .slice ax (List.length lx) cx)] [.pointer (some ⟨bk5, 0, none⟩), .slice ax (List.length lx) cx] 2 En25 (by kernel_rfl) (by kernel_rfl) rfl ?_
  intro ac27 En28
  refine from_op (by kernel_rfl) ?_
  have hM30 : Heap wo24 [] := Hv26.heap.pick [] (by kernel_rfl) (by decide)
  refine op_call (d := some 14) (f := 35) (args := #[.slice ax (List.length lx) cx]) En28 (by kernel_rfl) ((clone_go _ ax (List.length lx) cx lx (by first | rfl | (simp; done) | (simp; omega) | omega) ((ix.ev Hv26).pick [] (by kernel_rfl))).mono ?_)
  rintro _ wo32 ⟨aoq29, coq29, rfl, he35⟩
  refine ⟨_, rfl, ?_⟩
  intro ac31 En33
  have Hv34 : Ev w [] wo32 [.vec aoq29 coq29 1 (bys lx) 5, .vec aoq14 coq14 1 (bys lx) 5, .box bk5 [.slice none 0 0, .bool false, .slice none 0 0, .bool false, .slice aoq14 (List.length lx) coq14, .slice none 0 0, .slice none 0 0, .bool false, .bool false, .slice none 0 0, .slice none 0 0, .bool false, .bool false] 66] := Hv26.trans (Ev.call (R := [.vec aoq14 coq14 1 (bys lx) 5, .box bk5 [.slice none 0 0, .bool false, .slice none 0 0, .bool false, .slice aoq14 (List.length lx) coq14, .slice none 0 0, .slice none 0 0, .bool false, .bool false, .slice none 0 0, .slice none 0 0, .bool false, .bool false] 66]) Hv26.heap [0, 1] (by kernel_rfl) (by decide) he35)
  clear hM30 he35
  refine d_pures [(0, .slice ax (List.length lx) cx), (2, .pointer none), (3, .pointer (some ⟨bk5, 0, none⟩)), (14, .slice aoq29 (List.length lx) coq29), (17, .pointer (some ⟨bk5, 0, none⟩))] [.pointer (some ⟨bk5, 0, none⟩), .pointer (some ⟨bk5, 0, none⟩), .pointer (some ⟨bk5, 0, none⟩)] 6 En33 (by kernel_rfl) (by kernel_rfl) rfl ?_
  intro ac36 En37
  refine from_op (by kernel_rfl) ?_
  refine op_storebox2 (d := none) (t := 22) (b := bk5) (off := 0) (k := 2) (v := .slice aoq29 (List.length lx) coq29) En37 (by kernel_rfl) Hv34 rfl rfl (by kernel_rfl) rfl rfl (L' := [.vec aoq29 coq29 1 (bys lx) 5, .vec aoq14 coq14 1 (bys lx) 5, .box bk5 [.slice aoq29 (List.length lx) coq29, .bool false, .slice none 0 0, .bool false, .slice aoq14 (List.length lx) coq14, .slice none 0 0, .slice none 0 0, .bool false, .bool false, .slice none 0 0, .slice none 0 0, .bool false, .bool false] 66]) rfl ?_
  intro ac38 wo39  En40 Hv41
  refine from_end (by kernel_rfl) ?_
  refine then_normal ?_
  refine wp_seq ?_
  refine region_from ?_  -- region 4
  refine d_pures [(0, .slice ax (List.length lx) cx), (2, .pointer (some ⟨bk5, 0, none⟩)), (3, .pointer (some ⟨bk5, 0, none⟩))] [.pointer (some ⟨bk5, 0, none⟩), .pointer (some ⟨bk5, 0, none⟩)] 2 En40 (by kernel_rfl) (by kernel_rfl) rfl ?_
  intro ac42 En43
  refine from_end (by kernel_rfl) ?_
  refine then_normal ?_
  refine wp_ret ?_
  refine d_ret1 (t := 2) (v := .pointer (some ⟨bk5, 0, none⟩)) En43 (by kernel_rfl) (by kernel_rfl) ?_
  exact ⟨bk5, aoq29, coq29, aoq14, coq14, rfl, Hv41.pick [2, 0, 1] (by kernel_rfl) (by decide)⟩

theorem head_ok (w : World) : Calls Try.prog 8 #[] w fun e w' => e = .returned (.bool true) ∧ Ev w [] w' [] := by
  refine d_start [] 26 Go.Proofs.Try.func8 Go.Proofs.Try.ntmps8 rfl (by kernel_rfl) (by kernel_rfl) ?_
  intro act0 En0
  have Hv0 : Ev w [] w [] := Ev.refl (Heap.nil _)
  refine wp_seq ?_
  refine region_from ?_  -- region 0
  refine d_pures [(0, .bool false)] [.bool false] 1 En0 (by kernel_rfl) (by kernel_rfl) rfl ?_
  intro ac1 En2
  refine from_end (by kernel_rfl) ?_
  refine then_normal ?_
  refine wp_seq ?_
  refine region_from ?_  -- region 1
  refine from_op (by kernel_rfl) ?_
  refine op_lit (d := some 2) (t := 22) (T := 5) (m := 1) (parts := #[(0, .int .u8 104)]) (xs := bys [(104 : UInt8)]) (sz := 1) En2 (by kernel_rfl) (by kernel_rfl) rfl (by decide) Hv0 ?_
  intro ac4 wo5 bk3 En6 Hv7
  refine from_op (by kernel_rfl) ?_
  refine op_marked (d := some 3) (t := 22) (e := 5) (k := 0) (cap := 1) (m := 1) (ad := ⟨bk3, 0, none⟩) (xs := bys [(104 : UInt8)]) (T := 5) En6 (by kernel_rfl) (by kernel_rfl) (by kernel_rfl) Hv7 rfl ?_
  intro ac8 wo9  En10 Hv11
  refine from_op (by kernel_rfl) ?_
  refine op_lit (d := some 4) (t := 22) (T := 5) (m := 2) (parts := #[(0, .int .u8 97), (1, .int .u8 98)]) (xs := bys [(97 : UInt8), (98 : UInt8)]) (sz := 1) En10 (by kernel_rfl) (by kernel_rfl) rfl (by decide) Hv11 ?_
  intro ac13 wo14 bk12 En15 Hv16
  refine from_op (by kernel_rfl) ?_
  refine op_marked (d := some 5) (t := 22) (e := 5) (k := 1) (cap := 2) (m := 2) (ad := ⟨bk12, 0, none⟩) (xs := bys [(97 : UInt8), (98 : UInt8)]) (T := 5) En15 (by kernel_rfl) (by kernel_rfl) (by kernel_rfl) Hv16 rfl ?_
  intro ac17 wo18  En19 Hv20
  refine d_pures [(0, .bool false), (3, .slice (some ⟨bk3, 0, none⟩) 1 1), (6, .agg #[.slice (some ⟨bk12, 0, none⟩) 2 2, .slice none 0 0, .bool false, .bool false])] [.agg #[.slice (some ⟨bk12, 0, none⟩) 2 2, .slice none 0 0, .bool false, .bool false]] 5 En19 (by kernel_rfl) (by kernel_rfl) rfl ?_
  intro ac21 En22
  refine from_op (by kernel_rfl) ?_
  refine op_lit (d := some 7) (t := 22) (T := 5) (m := 2) (parts := #[(0, .int .u8 97), (1, .int .u8 98)]) (xs := bys [(97 : UInt8), (98 : UInt8)]) (sz := 1) En22 (by kernel_rfl) (by kernel_rfl) rfl (by decide) Hv20 ?_
  intro ac24 wo25 bk23 En26 Hv27
  refine from_op (by kernel_rfl) ?_
  refine op_marked (d := some 8) (t := 22) (e := 5) (k := 2) (cap := 2) (m := 2) (ad := ⟨bk23, 0, none⟩) (xs := bys [(97 : UInt8), (98 : UInt8)]) (T := 5) En26 (by kernel_rfl) (by kernel_rfl) (by kernel_rfl) Hv27 rfl ?_
  intro ac28 wo29  En30 Hv31
  refine d_pures [(0, .bool false), (10, .agg #[.slice (some ⟨bk3, 0, none⟩) 1 1, .slice (some ⟨bk12, 0, none⟩) 2 2, .slice none 0 0, .bool false, .bool false, .slice none 0 0, .slice (some ⟨bk23, 0, none⟩) 2 2, .bool false, .bool false])] [.agg #[.slice none 0 0, .slice (some ⟨bk23, 0, none⟩) 2 2, .bool false, .bool false], .agg #[.slice (some ⟨bk3, 0, none⟩) 1 1, .slice (some ⟨bk12, 0, none⟩) 2 2, .slice none 0 0, .bool false, .bool false, .slice none 0 0, .slice (some ⟨bk23, 0, none⟩) 2 2, .bool false, .bool false]] 9 En30 (by kernel_rfl) (by kernel_rfl) rfl ?_
  intro ac32 En33
  refine from_op (by kernel_rfl) ?_
  refine op_alloc (d := some 1) (T := 26) (x := .tuple #[]) (z := .agg #[.slice none 0 0, .slice none 0 0, .slice none 0 0, .bool false, .bool false, .slice none 0 0, .slice none 0 0, .bool false, .bool false]) (cs := [.slice none 0 0, .slice none 0 0, .slice none 0 0, .bool false, .bool false, .slice none 0 0, .slice none 0 0, .bool false, .bool false]) En33 (by kernel_rfl) (by kernel_rfl) (by kernel_rfl) Hv31 ?_
  intro ac35 wo36 bk34 En37 Hv38
  refine from_op (by kernel_rfl) ?_
  refine op_storeaggbox (d := none) (t := 26) (b := bk34) (off := 0) (k := 3) (m := 9) (xs := [.slice (some ⟨bk3, 0, none⟩) 1 1, .slice (some ⟨bk12, 0, none⟩) 2 2, .slice none 0 0, .bool false, .bool false, .slice none 0 0, .slice (some ⟨bk23, 0, none⟩) 2 2, .bool false, .bool false]) (v := .agg #[.slice (some ⟨bk3, 0, none⟩) 1 1, .slice (some ⟨bk12, 0, none⟩) 2 2, .slice none 0 0, .bool false, .bool false, .slice none 0 0, .slice (some ⟨bk23, 0, none⟩) 2 2, .bool false, .bool false]) (cs' := [.slice (some ⟨bk3, 0, none⟩) 1 1, .slice (some ⟨bk12, 0, none⟩) 2 2, .slice none 0 0, .bool false, .bool false, .slice none 0 0, .slice (some ⟨bk23, 0, none⟩) 2 2, .bool false, .bool false]) En37 (by kernel_rfl) Hv38 rfl rfl rfl (by simp) (by kernel_rfl) (one_all (by kernel_rfl)) rfl (L' := [.vec (some ⟨bk3, 0, none⟩) 1 1 (bys [(104 : UInt8)]) 5, .vec (some ⟨bk12, 0, none⟩) 2 1 (bys [(97 : UInt8), (98 : UInt8)]) 5, .vec (some ⟨bk23, 0, none⟩) 2 1 (bys [(97 : UInt8), (98 : UInt8)]) 5, .box bk34 [.slice (some ⟨bk3, 0, none⟩) 1 1, .slice (some ⟨bk12, 0, none⟩) 2 2, .slice none 0 0, .bool false, .bool false, .slice none 0 0, .slice (some ⟨bk23, 0, none⟩) 2 2, .bool false, .bool false] 26]) rfl ?_
  intro ac39 wo40  En41 Hv42
  refine from_end (by kernel_rfl) ?_
  refine then_normal ?_
  refine wp_seq ?_
  refine region_from ?_  -- region 2
  refine from_op (by kernel_rfl) ?_
  refine op_loadaggbox (d := some 11) (t := 26) (b := bk34) (off := 0) (k := 3) (m := 9) (xs := [.slice (some ⟨bk3, 0, none⟩) 1 1, .slice (some ⟨bk12, 0, none⟩) 2 2, .slice none 0 0, .bool false, .bool false, .slice none 0 0, .slice (some ⟨bk23, 0, none⟩) 2 2, .bool false, .bool false]) En41 (by kernel_rfl) Hv42 rfl rfl rfl (by kernel_rfl) (by kernel_rfl) ?_
  intro ac43 En44
  refine from_op (by kernel_rfl) ?_
  have hM45 : Heap wo40 [] := Hv42.heap.pick [] (by kernel_rfl) (by decide)
  refine op_call (d := some 12) (f := 9) (args := #[.agg #[.slice (some ⟨bk3, 0, none⟩) 1 1, .slice (some ⟨bk12, 0, none⟩) 2 2, .slice none 0 0, .bool false, .bool false, .slice none 0 0, .slice (some ⟨bk23, 0, none⟩) 2 2, .bool false, .bool false]]) En44 (by kernel_rfl) ((relay_go _ (some ⟨bk3, 0, none⟩) 1 1 [(104 : UInt8)] (by first | rfl | (simp; done) | (simp; omega) | omega) (bys_in Hv42.heap (k := 0) rfl [] (by kernel_rfl) rfl (by first | omega | (simp; done) | (simp; omega))) (some ⟨bk12, 0, none⟩) 2 2 [(97 : UInt8), (98 : UInt8)] (by first | rfl | (simp; done) | (simp; omega) | omega) (bys_in Hv42.heap (k := 1) rfl [] (by kernel_rfl) rfl (by first | omega | (simp; done) | (simp; omega))) none 0 0 [] (by first | rfl | (simp; done) | (simp; omega) | omega) (InB.nil _ _) false false none 0 0 [] (by first | rfl | (simp; done) | (simp; omega) | omega) (InB.nil _ _) (some ⟨bk23, 0, none⟩) 2 2 [(97 : UInt8), (98 : UInt8)] (by first | rfl | (simp; done) | (simp; omega) | omega) (bys_in Hv42.heap (k := 2) rfl [] (by kernel_rfl) rfl (by first | omega | (simp; done) | (simp; omega))) false false (by first | omega | (simp; done) | (simp; omega))).mono ?_)
  rintro _ wo47 ⟨rfl, he50⟩
  refine ⟨_, rfl, ?_⟩
  intro ac46 En48
  have Hv49 : Ev w [] wo47 [.vec (some ⟨bk3, 0, none⟩) 1 1 (bys [(104 : UInt8)]) 5, .vec (some ⟨bk12, 0, none⟩) 2 1 (bys [(97 : UInt8), (98 : UInt8)]) 5, .vec (some ⟨bk23, 0, none⟩) 2 1 (bys [(97 : UInt8), (98 : UInt8)]) 5, .box bk34 [.slice (some ⟨bk3, 0, none⟩) 1 1, .slice (some ⟨bk12, 0, none⟩) 2 2, .slice none 0 0, .bool false, .bool false, .slice none 0 0, .slice (some ⟨bk23, 0, none⟩) 2 2, .bool false, .bool false] 26] := Hv42.trans (Ev.call (R := [.vec (some ⟨bk3, 0, none⟩) 1 1 (bys [(104 : UInt8)]) 5, .vec (some ⟨bk12, 0, none⟩) 2 1 (bys [(97 : UInt8), (98 : UInt8)]) 5, .vec (some ⟨bk23, 0, none⟩) 2 1 (bys [(97 : UInt8), (98 : UInt8)]) 5, .box bk34 [.slice (some ⟨bk3, 0, none⟩) 1 1, .slice (some ⟨bk12, 0, none⟩) 2 2, .slice none 0 0, .bool false, .bool false, .slice none 0 0, .slice (some ⟨bk23, 0, none⟩) 2 2, .bool false, .bool false] 26]) Hv42.heap [0, 1, 2, 3] (by kernel_rfl) (by decide) he50)
  clear hM45 he50
  refine d_pures [(0, .bool false), (1, .pointer (some ⟨bk34, 0, none⟩)), (13, .bool (relayF [(104 : UInt8)] [(97 : UInt8), (98 : UInt8)] [] false false [] [(97 : UInt8), (98 : UInt8)] false false == (1 : Int)))] [.bool (relayF [(104 : UInt8)] [(97 : UInt8), (98 : UInt8)] [] false false [] [(97 : UInt8), (98 : UInt8)] false false == (1 : Int))] 3 En48 (by kernel_rfl) (by kernel_rfl) rfl ?_
  intro ac51 En52
  rw [show (relayF [(104 : UInt8)] [(97 : UInt8), (98 : UInt8)] [] false false [] [(97 : UInt8), (98 : UInt8)] false false == (1 : Int)) = true from (by rw [beq_iff_eq]; rfl)] at En52
  refine d_pures [(0, .bool false), (1, .pointer (some ⟨bk34, 0, none⟩)), (14, .bool true)] [.bool true] 4 En52 (by kernel_rfl) (by kernel_rfl) rfl ?_
  intro ac53 En54
  refine from_op (by kernel_rfl) ?_
  have hM56 : Heap wo47 [] := Hv49.heap.pick [] (by kernel_rfl) (by decide)
  refine op_call (d := some 15) (f := 17) (args := #[.slice none 0 0]) En54 (by kernel_rfl) ((new_go _ none 0 0 [] (by first | rfl | (simp; done) | (simp; omega) | omega) (InB.nil _ _)).mono ?_)
  rintro _ wo58 ⟨bq55, aoq55, coq55, auq55, cuq55, rfl, he61⟩
  refine ⟨_, rfl, ?_⟩
  intro ac57 En59
  have Hv60 : Ev w [] wo58 [.box bq55 [.slice aoq55 (List.length ([] : List UInt8)) coq55, .bool false, .slice none 0 0, .bool false, .slice auq55 (List.length ([] : List UInt8)) cuq55, .slice none 0 0, .slice none 0 0, .bool false, .bool false, .slice none 0 0, .slice none 0 0, .bool false, .bool false] 66, .vec aoq55 coq55 1 (bys ([] : List UInt8)) 5, .vec auq55 cuq55 1 (bys ([] : List UInt8)) 5, .vec (some ⟨bk3, 0, none⟩) 1 1 (bys [(104 : UInt8)]) 5, .vec (some ⟨bk12, 0, none⟩) 2 1 (bys [(97 : UInt8), (98 : UInt8)]) 5, .vec (some ⟨bk23, 0, none⟩) 2 1 (bys [(97 : UInt8), (98 : UInt8)]) 5, .box bk34 [.slice (some ⟨bk3, 0, none⟩) 1 1, .slice (some ⟨bk12, 0, none⟩) 2 2, .slice none 0 0, .bool false, .bool false, .slice none 0 0, .slice (some ⟨bk23, 0, none⟩) 2 2, .bool false, .bool false] 26] := Hv49.trans (Ev.call (R := [.vec (some ⟨bk3, 0, none⟩) 1 1 (bys [(104 : UInt8)]) 5, .vec (some ⟨bk12, 0, none⟩) 2 1 (bys [(97 : UInt8), (98 : UInt8)]) 5, .vec (some ⟨bk23, 0, none⟩) 2 1 (bys [(97 : UInt8), (98 : UInt8)]) 5, .box bk34 [.slice (some ⟨bk3, 0, none⟩) 1 1, .slice (some ⟨bk12, 0, none⟩) 2 2, .slice none 0 0, .bool false, .bool false, .slice none 0 0, .slice (some ⟨bk23, 0, none⟩) 2 2, .bool false, .bool false] 26]) Hv49.heap [0, 1, 2, 3] (by kernel_rfl) (by decide) he61)
  clear hM56 he61
  refine d_pures [(0, .bool false), (1, .pointer (some ⟨bk34, 0, none⟩)), (18, .bool true)] [.bool true, .bool true, .bool true] 8 En59 (by kernel_rfl) (by kernel_rfl) rfl ?_
  intro ac62 En63
  refine from_op (by kernel_rfl) ?_
  refine op_lit (d := some 19) (t := 22) (T := 5) (m := 1) (parts := #[(0, .int .u8 1)]) (xs := bys [(1 : UInt8)]) (sz := 1) En63 (by kernel_rfl) (by kernel_rfl) rfl (by decide) Hv60 ?_
  intro ac65 wo66 bk64 En67 Hv68
  refine from_op (by kernel_rfl) ?_
  refine op_lit (d := some 20) (t := 22) (T := 5) (m := 1) (parts := #[(0, .int .u8 2)]) (xs := bys [(2 : UInt8)]) (sz := 1) En67 (by kernel_rfl) (by kernel_rfl) rfl (by decide) Hv68 ?_
  intro ac70 wo71 bk69 En72 Hv73
  refine from_op (by kernel_rfl) ?_
  refine op_lit (d := some 21) (t := 22) (T := 5) (m := 1) (parts := #[(0, .int .u8 1)]) (xs := bys [(1 : UInt8)]) (sz := 1) En72 (by kernel_rfl) (by kernel_rfl) rfl (by decide) Hv73 ?_
  intro ac75 wo76 bk74 En77 Hv78
  refine from_op (by kernel_rfl) ?_
  refine op_lit (d := some 22) (t := 32) (T := 22) (m := 3) (parts := #[(0, .slice (some ⟨bk64, 0, none⟩) 1 1), (1, .slice (some ⟨bk69, 0, none⟩) 1 1), (2, .slice (some ⟨bk74, 0, none⟩) 1 1)]) (xs := [.slice (some ⟨bk64, 0, none⟩) 1 1, .slice (some ⟨bk69, 0, none⟩) 1 1, .slice (some ⟨bk74, 0, none⟩) 1 1]) (sz := 1) En77 (by kernel_rfl) (by kernel_rfl) rfl (by decide) Hv78 ?_
  intro ac80 wo81 bk79 En82 Hv83
  refine from_op (by kernel_rfl) ?_
  have hM84 : Heap wo81 [] := Hv83.heap.pick [] (by kernel_rfl) (by decide)
  refine op_call (d := some 23) (f := 15) (args := #[.slice (some ⟨bk79, 0, none⟩) 3 3]) En82 (by kernel_rfl) ((repeats_go _ (some ⟨bk79, 0, none⟩) 3 3 ([⟨some ⟨bk64, 0, none⟩, 1, [(1 : UInt8)]⟩, ⟨some ⟨bk69, 0, none⟩, 1, [(2 : UInt8)]⟩, ⟨some ⟨bk74, 0, none⟩, 1, [(1 : UInt8)]⟩] : List (Sl UInt8)) (by first | rfl | (simp; done) | (simp; omega) | omega) ⟨Hv83.heap.ro (k := 10) rfl [] (by kernel_rfl) rfl, (fun e => by cases e), (by simp), (by simp), (List.forall_mem_cons.2 ⟨(bys_in Hv83.heap (k := 7) rfl [] (by kernel_rfl) rfl (by first | decide | (simp; done) | (simp; omega) | omega)), (List.forall_mem_cons.2 ⟨(bys_in Hv83.heap (k := 8) rfl [] (by kernel_rfl) rfl (by first | decide | (simp; done) | (simp; omega) | omega)), (List.forall_mem_cons.2 ⟨(bys_in Hv83.heap (k := 9) rfl [] (by kernel_rfl) rfl (by first | decide | (simp; done) | (simp; omega) | omega)), (fun x h => absurd h List.not_mem_nil)⟩)⟩)⟩)⟩).mono ?_)
  rintro _ wo86 ⟨rfl, he89⟩
  refine ⟨_, rfl, ?_⟩
  intro ac85 En87
  have Hv88 : Ev w [] wo86 [.box bq55 [.slice aoq55 (List.length ([] : List UInt8)) coq55, .bool false, .slice none 0 0, .bool false, .slice auq55 (List.length ([] : List UInt8)) cuq55, .slice none 0 0, .slice none 0 0, .bool false, .bool false, .slice none 0 0, .slice none 0 0, .bool false, .bool false] 66, .vec aoq55 coq55 1 (bys ([] : List UInt8)) 5, .vec auq55 cuq55 1 (bys ([] : List UInt8)) 5, .vec (some ⟨bk3, 0, none⟩) 1 1 (bys [(104 : UInt8)]) 5, .vec (some ⟨bk12, 0, none⟩) 2 1 (bys [(97 : UInt8), (98 : UInt8)]) 5, .vec (some ⟨bk23, 0, none⟩) 2 1 (bys [(97 : UInt8), (98 : UInt8)]) 5, .box bk34 [.slice (some ⟨bk3, 0, none⟩) 1 1, .slice (some ⟨bk12, 0, none⟩) 2 2, .slice none 0 0, .bool false, .bool false, .slice none 0 0, .slice (some ⟨bk23, 0, none⟩) 2 2, .bool false, .bool false] 26, .vec (some ⟨bk64, 0, none⟩) 1 1 (bys [(1 : UInt8)]) 5, .vec (some ⟨bk69, 0, none⟩) 1 1 (bys [(2 : UInt8)]) 5, .vec (some ⟨bk74, 0, none⟩) 1 1 (bys [(1 : UInt8)]) 5, .vec (some ⟨bk79, 0, none⟩) 3 1 [.slice (some ⟨bk64, 0, none⟩) 1 1, .slice (some ⟨bk69, 0, none⟩) 1 1, .slice (some ⟨bk74, 0, none⟩) 1 1] 22] := Hv83.trans (Ev.call (R := [.box bq55 [.slice aoq55 (List.length ([] : List UInt8)) coq55, .bool false, .slice none 0 0, .bool false, .slice auq55 (List.length ([] : List UInt8)) cuq55, .slice none 0 0, .slice none 0 0, .bool false, .bool false, .slice none 0 0, .slice none 0 0, .bool false, .bool false] 66, .vec aoq55 coq55 1 (bys ([] : List UInt8)) 5, .vec auq55 cuq55 1 (bys ([] : List UInt8)) 5, .vec (some ⟨bk3, 0, none⟩) 1 1 (bys [(104 : UInt8)]) 5, .vec (some ⟨bk12, 0, none⟩) 2 1 (bys [(97 : UInt8), (98 : UInt8)]) 5, .vec (some ⟨bk23, 0, none⟩) 2 1 (bys [(97 : UInt8), (98 : UInt8)]) 5, .box bk34 [.slice (some ⟨bk3, 0, none⟩) 1 1, .slice (some ⟨bk12, 0, none⟩) 2 2, .slice none 0 0, .bool false, .bool false, .slice none 0 0, .slice (some ⟨bk23, 0, none⟩) 2 2, .bool false, .bool false] 26, .vec (some ⟨bk64, 0, none⟩) 1 1 (bys [(1 : UInt8)]) 5, .vec (some ⟨bk69, 0, none⟩) 1 1 (bys [(2 : UInt8)]) 5, .vec (some ⟨bk74, 0, none⟩) 1 1 (bys [(1 : UInt8)]) 5, .vec (some ⟨bk79, 0, none⟩) 3 1 [.slice (some ⟨bk64, 0, none⟩) 1 1, .slice (some ⟨bk69, 0, none⟩) 1 1, .slice (some ⟨bk74, 0, none⟩) 1 1] 22]) Hv83.heap [0, 1, 2, 3, 4, 5, 6, 7, 8, 9, 10] (by kernel_rfl) (by decide) he89)
  clear hM84 he89
  refine d_pures [(0, .bool false), (1, .pointer (some ⟨bk34, 0, none⟩)), (18, .bool true), (24, .bool (repF ([⟨some ⟨bk64, 0, none⟩, 1, [(1 : UInt8)]⟩, ⟨some ⟨bk69, 0, none⟩, 1, [(2 : UInt8)]⟩, ⟨some ⟨bk74, 0, none⟩, 1, [(1 : UInt8)]⟩] : List (Sl UInt8)) == (2 : Int)))] [.bool (repF ([⟨some ⟨bk64, 0, none⟩, 1, [(1 : UInt8)]⟩, ⟨some ⟨bk69, 0, none⟩, 1, [(2 : UInt8)]⟩, ⟨some ⟨bk74, 0, none⟩, 1, [(1 : UInt8)]⟩] : List (Sl UInt8)) == (2 : Int))] 14 En87 (by kernel_rfl) (by kernel_rfl) rfl ?_
  intro ac90 En91
  rw [show (repF ([⟨some ⟨bk64, 0, none⟩, 1, [(1 : UInt8)]⟩, ⟨some ⟨bk69, 0, none⟩, 1, [(2 : UInt8)]⟩, ⟨some ⟨bk74, 0, none⟩, 1, [(1 : UInt8)]⟩] : List (Sl UInt8)) == (2 : Int)) = true from (by rw [beq_iff_eq]; rfl)] at En91
  refine d_pures [(0, .bool true), (1, .pointer (some ⟨bk34, 0, none⟩))] [.bool true, .bool true] 16 En91 (by kernel_rfl) (by kernel_rfl) rfl ?_
  intro ac92 En93
  refine from_end (by kernel_rfl) ?_
  refine then_normal ?_
  refine wp_ret ?_
  refine d_ret1 (t := 0) (v := .bool true) En93 (by kernel_rfl) (by kernel_rfl) ?_
  exact ⟨rfl, Hv88.pick [] (by kernel_rfl) (by decide)⟩

end Go.Proofs.Ytjecaljhipfbfaa
