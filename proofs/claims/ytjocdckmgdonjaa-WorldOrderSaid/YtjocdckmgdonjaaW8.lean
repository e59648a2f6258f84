/- WorldOrder: its walk. -/
import Derived.Test.YtjocdckmgdonjaaW7
namespace Go.Proofs.Ytjocdckmgdonjaa
open Go.Dbr
set_option maxRecDepth 100000

theorem order_bad (room : Int) (a_l : Option Addr) (c_l : Nat) (l : List ((Int) × (Int) × (Int) × (Sl UInt8) × Unit)) (w : World) (hr : room < 1 ∨ 65536 < room) : Calls Try.prog 6 #[.int .i64 room, .slice a_l (List.length l) c_l] w fun e w' => e = .returned (.bool true) ∧ Ev w [] w' [] := by
  refine d_start [(0, .int .i64 room), (1, .slice a_l (List.length l) c_l)] 135 Go.Proofs.Try.func6 Go.Proofs.Try.ntmps6 rfl (by kernel_rfl) (by kernel_rfl) ?_
  intro act0 En0
  have Hv0 : Ev w [] w [] := Ev.refl (Heap.nil _)
  refine wp_seq ?_
  refine region_from ?_  -- region 0
  refine d_pures [(0, .int .i64 room), (1, .slice a_l (List.length l) c_l), (4, .bool false)] [.bool false] 1 En0 (by kernel_rfl) (by kernel_rfl) rfl ?_
  intro ac1 En2
  refine from_end (by kernel_rfl) ?_
  refine then_normal ?_
  refine wp_seq ?_
  refine region_from ?_  -- region 1
  refine from_op (by kernel_rfl) ?_
  have hM3 : Heap w [] := Hv0.heap.pick [] (by kernel_rfl) (by decide)
  refine op_call (d := some 18) (f := 7) (args := #[]) En2 (by kernel_rfl) ((head_ok _).mono ?_)
  rintro _ wo5 ⟨rfl, he8⟩
  refine ⟨_, rfl, ?_⟩
  intro ac4 En6
  have Hv7 : Ev w [] wo5 [] := Hv0.trans (Ev.call (R := []) Hv0.heap [] (by kernel_rfl) (by decide) he8)
  clear hM3 he8
  refine d_pures [(0, .int .i64 room), (1, .slice a_l (List.length l) c_l), (4, .bool false), (5, .bool true)] [.bool true] 2 En6 (by kernel_rfl) (by kernel_rfl) rfl ?_
  intro ac9 En10
  refine from_end (by kernel_rfl) ?_
  refine then_normal ?_
  refine wp_seq ?_
  refine region_from ?_  -- region 2
  refine d_pures [(0, .int .i64 room), (1, .slice a_l (List.length l) c_l), (4, .bool false), (5, .bool true), (20, .int .i64 room)] [.int .i64 room] 1 En10 (by kernel_rfl) (by kernel_rfl) rfl ?_
  intro ac11 En12
  refine from_op (by kernel_rfl) ?_
  have hM13 : Heap wo5 [] := Hv7.heap.pick [] (by kernel_rfl) (by decide)
  refine op_call (d := some 21) (f := 16) (args := #[.int .i64 room]) En12 (by kernel_rfl) ((newpipe_bad room _ hr).mono ?_)
  rintro _ wo15 ⟨rfl, he18⟩
  refine ⟨_, rfl, ?_⟩
  intro ac14 En16
  have Hv17 : Ev w [] wo15 [] := Hv7.trans (Ev.call (R := []) Hv7.heap [] (by kernel_rfl) (by decide) he18)
  clear hM13 he18
  refine d_pures [(0, .int .i64 room), (1, .slice a_l (List.length l) c_l), (4, .bool false), (5, .bool true), (6, .pointer none), (7, .int .i64 1)] [.tuple #[.pointer none, .int .i64 1], .pointer none, .int .i64 1, .pointer none, .int .i64 1] 7 En16 (by kernel_rfl) (by kernel_rfl) rfl ?_
  intro ac19 En20
  refine from_end (by kernel_rfl) ?_
  refine then_normal ?_
  refine wp_seq ?_
  refine wp_seq ?_
  refine region_from ?_  -- region 3
  refine d_pures [(0, .int .i64 room), (1, .slice a_l (List.length l) c_l), (4, .bool false), (5, .bool true), (6, .pointer none), (33, .bool true)] [.bool true, .bool false, .bool false, .int .i64 1, .bool true, .bool true, .bool true, undef, undef, .bool true] 10 En20 (by kernel_rfl) (by kernel_rfl) rfl ?_
  intro ac21 En22
  refine from_end (by kernel_rfl) ?_
  refine then_normal ?_
  refine cond_true En22 (t := true) (by kernel_rfl) rfl ?_
  refine wp_seq ?_
  refine region_from ?_  -- region 4
  refine d_pures [(0, .int .i64 room), (1, .slice a_l (List.length l) c_l), (4, .bool false), (5, .bool true), (6, .pointer none), (35, .bool true), (38, .bool (decide (room < (1 : Int))))] [.bool true, .bool true, .int .i64 room, .bool (decide (room < (1 : Int))), .bool (decide (room < (1 : Int)))] 5 En22 (by kernel_rfl) (by kernel_rfl) rfl ?_
  intro ac23 En24
  rcases Bool.eq_false_or_eq_true (decide (room < (1 : Int))) with hb25 | hb25
  · rw [hb25] at En24
    have hp26 : room < (1 : Int) := by simpa using hb25
    refine d_pures [(0, .int .i64 room), (1, .slice a_l (List.length l) c_l), (4, .bool true), (5, .bool true), (6, .pointer none)] [undef, undef, .bool true, .bool true, .bool true] 10 En24 (by kernel_rfl) (by kernel_rfl) rfl ?_
    intro ac27 En28
    refine from_end (by kernel_rfl) ?_
    refine then_normal ?_
    refine wp_ret ?_
    refine then_ret ?_
    refine d_ret1 (t := 4) (v := .bool true) En28 (by kernel_rfl) (by kernel_rfl) ?_
    exact ⟨rfl, Hv17.pick [] (by kernel_rfl) (by decide)⟩
  · rw [hb25] at En24
    have hp29 : ¬ (room < (1 : Int)) := by simpa using hb25
    refine d_pures [(0, .int .i64 room), (1, .slice a_l (List.length l) c_l), (4, .bool (decide (room > (65536 : Int)))), (5, .bool true), (6, .pointer none)] [.int .i64 room, .bool (decide (room > (65536 : Int))), .bool (decide (room > (65536 : Int))), .bool (decide (room > (65536 : Int))), .bool (decide (room > (65536 : Int)))] 10 En24 (by kernel_rfl) (by kernel_rfl) rfl ?_
    intro ac30 En31
    refine from_end (by kernel_rfl) ?_
    refine then_normal ?_
    refine wp_ret ?_
    refine then_ret ?_
    refine d_ret1 (t := 4) (v := .bool (decide (room > (65536 : Int)))) En31 (by kernel_rfl) (by kernel_rfl) ?_
    refine ⟨?_, Hv17.pick [] (by kernel_rfl) (by decide)⟩
    congr 2; simp; omega


theorem order_write {rl hl fl wl : List UInt8} (h : rl ++ (hl ++ fl) = wl) (x : List UInt8) : rl ++ (hl ++ (fl ++ x)) = wl ++ x := by rw [← h]; simp
theorem order_move {rl hl fl wl : List UInt8} (h : rl ++ (hl ++ fl) = wl) (n : Nat) : rl ++ ((hl ++ fl.take n) ++ fl.drop n) = wl := by rw [List.append_assoc, List.take_append_drop]; exact h
theorem order_read {rl hl fl wl : List UInt8} (h : rl ++ (hl ++ fl) = wl) (n : Nat) : (rl ++ hl.take n) ++ (hl.drop n ++ fl) = wl := by rw [List.append_assoc, ← List.append_assoc (hl.take n), List.take_append_drop]; exact h

theorem order_good (r : Nat) (a_l : Option Addr) (c_l : Nat) (l : List ((Int) × (Int) × (Int) × (Sl UInt8) × Unit)) (w : World) (h1 : 1 ≤ r) (h2 : r ≤ 65536) (i_l : InS (fun p : (Int) × (Int) × (Int) × (Sl UInt8) × Unit => (fun n : Int => [.int .i64 n]) p.1 ++ (fun p : (Int) × (Int) × (Sl UInt8) × Unit => (fun n : Int => [.int .i64 n]) p.1 ++ (fun p : (Int) × (Sl UInt8) × Unit => (fun n : Int => [.int .i64 n]) p.1 ++ (fun p : (Sl UInt8) × Unit => (fun s : Sl UInt8 => s.f) p.1 ++ (fun _ : Unit => []) p.2) p.2) p.2) p.2) 48 (fun x : (Int) × (Int) × (Int) × (Sl UInt8) × Unit => ((-9223372036854775808 ≤ x.1 ∧ x.1 ≤ 9223372036854775807) ∧ ((-9223372036854775808 ≤ x.2.1 ∧ x.2.1 ≤ 9223372036854775807) ∧ ((-9223372036854775808 ≤ x.2.2.1 ∧ x.2.2.1 ≤ 9223372036854775807) ∧ (InB w [] x.2.2.2.1.a x.2.2.2.1.c x.2.2.2.1.l ∧ (True)))))) w [] a_l c_l l) : Calls Try.prog 6 #[.int .i64 ((r : Nat) : Int), .slice a_l (List.length l) c_l] w fun e w' => e = .returned (.bool true) ∧ Ev w [] w' [] := by
  have hls := i_l.small
  refine d_start [(0, .int .i64 ((r : Nat) : Int)), (1, .slice a_l (List.length l) c_l)] 135 Go.Proofs.Try.func6 Go.Proofs.Try.ntmps6 rfl (by kernel_rfl) (by kernel_rfl) ?_
  intro act0 En0
  have Hv0 : Ev w [] w [] := Ev.refl (Heap.nil _)
  refine wp_seq ?_
  refine region_from ?_  -- region 0
  refine d_pures [(0, .int .i64 ((r : Nat) : Int)), (1, .slice a_l (List.length l) c_l), (4, .bool false)] [.bool false] 1 En0 (by kernel_rfl) (by kernel_rfl) rfl ?_
  intro ac1 En2
  refine from_end (by kernel_rfl) ?_
  refine then_normal ?_
  refine wp_seq ?_
  refine region_from ?_  -- region 1
  refine from_op (by kernel_rfl) ?_
  have hM3 : Heap w [] := Hv0.heap.pick [] (by kernel_rfl) (by decide)
  refine op_call (d := some 18) (f := 7) (args := #[]) En2 (by kernel_rfl) ((head_ok _).mono ?_)
  rintro _ wo5 ⟨rfl, he8⟩
  refine ⟨_, rfl, ?_⟩
  intro ac4 En6
  have Hv7 : Ev w [] wo5 [] := Hv0.trans (Ev.call (R := []) Hv0.heap [] (by kernel_rfl) (by decide) he8)
  clear hM3 he8
  refine d_pures [(0, .int .i64 ((r : Nat) : Int)), (1, .slice a_l (List.length l) c_l), (4, .bool false), (5, .bool true)] [.bool true] 2 En6 (by kernel_rfl) (by kernel_rfl) rfl ?_
  intro ac9 En10
  refine from_end (by kernel_rfl) ?_
  refine then_normal ?_
  refine wp_seq ?_
  refine region_from ?_  -- region 2
  refine d_pures [(0, .int .i64 ((r : Nat) : Int)), (1, .slice a_l (List.length l) c_l), (4, .bool false), (5, .bool true), (20, .int .i64 ((r : Nat) : Int))] [.int .i64 ((r : Nat) : Int)] 1 En10 (by kernel_rfl) (by kernel_rfl) rfl ?_
  intro ac11 En12
  refine from_op (by kernel_rfl) ?_
  have hM13 : Heap wo5 [] := Hv7.heap.pick [] (by kernel_rfl) (by decide)
  refine op_call (d := some 21) (f := 16) (args := #[.int .i64 ((r : Nat) : Int)]) En12 (by kernel_rfl) ((newpipe_good r _ h1 h2).mono ?_)
  rintro _ wo15 ⟨bp, rfl, he18⟩
  refine ⟨_, rfl, ?_⟩
  intro ac14 En16
  have Hv17 : Ev w [] wo15 [.box bp [.int .i64 ((r : Nat) : Int), .slice none 0 0, .slice none 0 0, .bool false, .bool false] 62] := Hv7.trans (Ev.call (R := []) Hv7.heap [] (by kernel_rfl) (by decide) he18)
  clear hM13 he18
  have Hv19 : Ev w [] wo15 [.box bp [.int .i64 ((r : Nat) : Int), .slice none 0 0, .slice none 0 0, .bool false, .bool false] 62, .vec none 0 1 (bys []) 5, .vec none 0 1 (bys []) 5] := Ev.nil (sz := 1) (T := 5) (Ev.nil (sz := 1) (T := 5) Hv17)
  refine d_pures [(0, .int .i64 ((r : Nat) : Int)), (1, .slice a_l (List.length l) c_l), (4, .bool false), (5, .bool true), (6, .pointer (some ⟨bp, 0, none⟩)), (7, .int .i64 0)] [.tuple #[.pointer (some ⟨bp, 0, none⟩), .int .i64 0], .pointer (some ⟨bp, 0, none⟩), .int .i64 0, .pointer (some ⟨bp, 0, none⟩), .int .i64 0] 7 En16 (by kernel_rfl) (by kernel_rfl) rfl ?_
  intro ac20 En21
  refine from_end (by kernel_rfl) ?_
  refine then_normal ?_
  refine wp_seq ?_
  refine wp_seq ?_
  refine region_from ?_  -- region 3
  refine d_pures [(0, .int .i64 ((r : Nat) : Int)), (1, .slice a_l (List.length l) c_l), (4, .bool false), (5, .bool true), (6, .pointer (some ⟨bp, 0, none⟩)), (33, .bool false)] [.bool true, .bool false, .bool false, .int .i64 0, .bool false, .bool false, .bool false, .pointer (some ⟨bp, 0, none⟩), .bool false, .bool false] 10 En21 (by kernel_rfl) (by kernel_rfl) rfl ?_
  intro ac22 En23
  refine from_end (by kernel_rfl) ?_
  refine then_normal ?_
  refine cond_false En23 (t := false) (by kernel_rfl) rfl ?_
  refine wp_skip ?_
  refine then_normal ?_
  refine wp_seq ?_
  refine region_from ?_  -- region 5
  refine d_pures [(0, .int .i64 ((r : Nat) : Int)), (1, .slice a_l (List.length l) c_l), (4, .bool false), (5, .bool true), (6, .pointer (some ⟨bp, 0, none⟩)), (8, .string (bstr []))] [.string (bstr [])] 1 En23 (by kernel_rfl) (by kernel_rfl) rfl ?_
  intro ac24 En25
  refine from_end (by kernel_rfl) ?_
  refine then_normal ?_
  refine wp_seq ?_
  refine region_from ?_  -- region 6
  refine d_pures [(0, .int .i64 ((r : Nat) : Int)), (1, .slice a_l (List.length l) c_l), (4, .bool false), (5, .bool true), (6, .pointer (some ⟨bp, 0, none⟩)), (8, .string (bstr [])), (9, .string (bstr []))] [.string (bstr [])] 1 En25 (by kernel_rfl) (by kernel_rfl) rfl ?_
  intro ac26 En27
  refine from_end (by kernel_rfl) ?_
  refine then_normal ?_
  refine wp_seq ?_
  refine wp_seq ?_
  refine region_from ?_  -- region 7
  refine d_pures [(0, .int .i64 ((r : Nat) : Int)), (1, .slice a_l (List.length l) c_l), (4, .bool false), (5, .bool true), (6, .pointer (some ⟨bp, 0, none⟩)), (8, .string (bstr [])), (9, .string (bstr [])), (10, .int .i64 0)] [.int .i64 0] 1 En27 (by kernel_rfl) (by kernel_rfl) rfl ?_
  intro ac28 En29
  refine from_end (by kernel_rfl) ?_
  refine then_normal ?_
  refine wp_block ?_
  refine loop_m (fun ms30 ac wo => ∃ (k : Nat) (wl : List UInt8) (rl : List UInt8) (fl : List UInt8) (hl : List UInt8) (af1 : Option Addr) (cf1 : Nat) (ah1 : Option Addr) (ch1 : Nat), ms30 = (List.length l - k : Nat) ∧ Env ac 135 [(0, .int .i64 ((r : Nat) : Int)), (1, .slice a_l (List.length l) c_l), (5, .bool true), (6, .pointer (some ⟨bp, 0, none⟩)), (8, .string (bstr wl)), (9, .string (bstr rl)), (10, .int .i64 ((k : Nat) : Int))] ∧ Ev w [] wo [.box bp [.int .i64 ((r : Nat) : Int), .slice af1 (List.length fl) cf1, .slice ah1 (List.length hl) ch1, .bool false, .bool false] 62, .vec af1 cf1 1 (bys fl) 5, .vec ah1 ch1 1 (bys hl) 5] ∧ (k ≤ List.length l) ∧ (rl ++ (hl ++ fl) = wl) ∧ (List.length fl + List.length hl ≤ r) ∧ (List.length wl ≤ 65536 * k) ∧ (List.length rl ≤ 65536 * k)) ⟨_, 0, [], [], [], [], none, 0, none, 0, rfl, En29.sub (by kernel_rfl), Hv19.pick [0, 1, 2] (by kernel_rfl) (by decide), by omega, by rfl, by simp, by simp, by simp⟩ ?_
  rintro mm36 ac32 wo33 ⟨k, wl, rl, fl, hl, af1, cf1, ah1, ch1, rfl, En34, Hv35, hk, hw1, hb, hwl, hrl⟩
  refine wp_seq ?_
  refine wp_seq ?_
  refine region_from ?_  -- region 8
  refine d_pures [(0, .int .i64 ((r : Nat) : Int)), (1, .slice a_l (List.length l) c_l), (5, .bool true), (6, .pointer (some ⟨bp, 0, none⟩)), (8, .string (bstr wl)), (9, .string (bstr rl)), (10, .int .i64 ((k : Nat) : Int)), (46, .bool (decide (((k : Nat) : Int) < ((List.length l : Nat) : Int))))] [.int .i64 ((k : Nat) : Int), .slice a_l (List.length l) c_l, .int .i64 ((List.length l : Nat) : Int), .bool (decide (((k : Nat) : Int) < ((List.length l : Nat) : Int)))] 4 En34 (by kernel_rfl) (by kernel_rfl) rfl ?_
  intro ac37 En38
  refine from_end (by kernel_rfl) ?_
  refine then_normal ?_
  refine cond_at En38 (t := decide (((k : Nat) : Int) < ((List.length l : Nat) : Int))) (by kernel_rfl) (fun hc39 => ?_) (fun hc39 => ?_)
  ·
    replace hc39 : ((k : Nat) : Int) < ((List.length l : Nat) : Int) := by simpa using hc39
    refine wp_skip ?_
    refine then_normal ?_
    refine wp_seq ?_
    refine wp_block ?_
    refine wp_seq ?_
    refine region_from ?_  -- region 10
    refine d_pures [(0, .int .i64 ((r : Nat) : Int)), (1, .slice a_l (List.length l) c_l), (5, .bool true), (6, .pointer (some ⟨bp, 0, none⟩)), (8, .string (bstr wl)), (9, .string (bstr rl)), (10, .int .i64 ((k : Nat) : Int)), (49, .slice a_l (List.length l) c_l), (50, .int .i64 ((k : Nat) : Int))] [.slice a_l (List.length l) c_l, .int .i64 ((k : Nat) : Int)] 2 En38 (by kernel_rfl) (by kernel_rfl) rfl ?_
    intro ac40 En41
    refine from_op (by kernel_rfl) ?_
    refine op_index (d := some 51) (t := 42) (e := 48) (sz := 4) (len := List.length l) (cap := c_l) (j := k) (ao := a_l) (k := .i64) (ix := ((k : Nat) : Int)) En41 (by kernel_rfl) i_l.nz (by kernel_rfl) (by kernel_rfl) (by omega) (by omega) (jo := k * 4) rfl ?_
    intro ac44 adr42 had43 En45
    have hb46 : k < List.length l := by omega
    obtain ⟨⟨x48_call, x48_at, x48_n, ⟨a_x48_b, c_x48_b, x48_b⟩, _⟩, hx47⟩ : ∃ x, (l)[k]? = some x := ⟨_, List.getElem?_eq_getElem hb46⟩
    obtain ⟨b_x48_call, b_x48_at, b_x48_n, i_x48_b, _⟩ := i_l.each _ (List.mem_of_getElem? hx47)
    replace b_x48_call : (-9223372036854775808 ≤ x48_call ∧ x48_call ≤ 9223372036854775807) := b_x48_call
    replace b_x48_at : (-9223372036854775808 ≤ x48_at ∧ x48_at ≤ 9223372036854775807) := b_x48_at
    replace b_x48_n : (-9223372036854775808 ≤ x48_n ∧ x48_n ≤ 9223372036854775807) := b_x48_n
    replace i_x48_b : InB w [] a_x48_b c_x48_b x48_b := i_x48_b
    refine d_pures [(0, .int .i64 ((r : Nat) : Int)), (1, .slice a_l (List.length l) c_l), (5, .bool true), (6, .pointer (some ⟨bp, 0, none⟩)), (8, .string (bstr wl)), (9, .string (bstr rl)), (10, .int .i64 ((k : Nat) : Int)), (52, .pointer (some (Addr.add adr42 (k * 4))))] [.pointer (some (Addr.add adr42 (k * 4)))] 4 En45 (by kernel_rfl) (by kernel_rfl) rfl ?_
    intro ac49 En50
    refine from_op (by kernel_rfl) ?_
    refine op_loadf (d := some 53) (t := 3) (ad := adr42) (ao := a_l) (ys := List.flatMap (fun p : (Int) × (Int) × (Int) × (Sl UInt8) × Unit => (fun n : Int => [.int .i64 n]) p.1 ++ (fun p : (Int) × (Int) × (Sl UInt8) × Unit => (fun n : Int => [.int .i64 n]) p.1 ++ (fun p : (Int) × (Sl UInt8) × Unit => (fun n : Int => [.int .i64 n]) p.1 ++ (fun p : (Sl UInt8) × Unit => (fun s : Sl UInt8 => s.f) p.1 ++ (fun _ : Unit => []) p.2) p.2) p.2) p.2) l) (o := k * 4) (v := .int .i64 x48_call) En50 (by kernel_rfl) rfl (i_l.ro.ev Hv35).reads had43 ((flat_get (sz := 4) (j := 0) (fun _ _ => rfl) hx47 (by decide)).trans rfl) (by kernel_rfl) ?_
    intro ac51 En52
    refine d_pures [(0, .int .i64 ((r : Nat) : Int)), (1, .slice a_l (List.length l) c_l), (5, .bool true), (6, .pointer (some ⟨bp, 0, none⟩)), (8, .string (bstr wl)), (9, .string (bstr rl)), (10, .int .i64 ((k : Nat) : Int)), (54, .int .i64 (IntKind.wrap .i64 ((BitVec.ofInt (IntKind.bits .i64) x48_call &&& BitVec.ofInt (IntKind.bits .i64) (3 : Int)).toNat : Int)))] [.int .i64 (IntKind.wrap .i64 ((BitVec.ofInt (IntKind.bits .i64) x48_call &&& BitVec.ofInt (IntKind.bits .i64) (3 : Int)).toNat : Int))] 6 En52 (by kernel_rfl) (by kernel_rfl) rfl ?_
    intro ac53 En54
    rw [Go.Dbr.i64_mask x48_call 2 3 (mi := 3) rfl (by decide) (by decide)] at En54
    refine from_end (by kernel_rfl) ?_
    refine then_normal ?_
    refine wp_block ?_
    refine wp_seq ?_
    refine region_from ?_  -- region 15
    refine d_pures [(0, .int .i64 ((r : Nat) : Int)), (1, .slice a_l (List.length l) c_l), (5, .bool true), (6, .pointer (some ⟨bp, 0, none⟩)), (8, .string (bstr wl)), (9, .string (bstr rl)), (10, .int .i64 ((k : Nat) : Int)), (54, .int .i64 (x48_call % (2 ^ 2 : Int))), (71, .bool (x48_call % (2 ^ 2 : Int) == (0 : Int)))] [.bool (x48_call % (2 ^ 2 : Int) == (0 : Int)), .bool (x48_call % (2 ^ 2 : Int) == (0 : Int))] 2 En54 (by kernel_rfl) (by kernel_rfl) rfl ?_
    intro ac55 En56
    refine from_end (by kernel_rfl) ?_
    refine then_normal ?_
    refine cond_at En56 (t := x48_call % (2 ^ 2 : Int) == (0 : Int)) (by kernel_rfl) (fun hc57 => ?_) (fun hc57 => ?_)
    ·
      replace hc57 : x48_call % (2 ^ 2 : Int) = (0 : Int) := by simpa using hc57
      refine wp_seq ?_
      refine region_from ?_  -- region 16
      refine d_pures [(0, .int .i64 ((r : Nat) : Int)), (1, .slice a_l (List.length l) c_l), (5, .bool true), (6, .pointer (some ⟨bp, 0, none⟩)), (8, .string (bstr wl)), (9, .string (bstr rl)), (10, .int .i64 ((k : Nat) : Int)), (54, .int .i64 (x48_call % (2 ^ 2 : Int))), (73, .pointer (some ⟨bp, 0, none⟩)), (74, .slice a_l (List.length l) c_l), (75, .int .i64 ((k : Nat) : Int))] [.pointer (some ⟨bp, 0, none⟩), .slice a_l (List.length l) c_l, .int .i64 ((k : Nat) : Int)] 3 En56 (by kernel_rfl) (by kernel_rfl) rfl ?_
      intro ac58 En59
      refine from_op (by kernel_rfl) ?_
      refine op_index (d := some 76) (t := 42) (e := 48) (sz := 4) (len := List.length l) (cap := c_l) (j := k) (ao := a_l) (k := .i64) (ix := ((k : Nat) : Int)) En59 (by kernel_rfl) i_l.nz (by kernel_rfl) (by kernel_rfl) (by omega) (by omega) (jo := k * 4) rfl ?_
      intro ac62 adr60 had61 En63
      refine d_pures [(0, .int .i64 ((r : Nat) : Int)), (1, .slice a_l (List.length l) c_l), (5, .bool true), (6, .pointer (some ⟨bp, 0, none⟩)), (8, .string (bstr wl)), (9, .string (bstr rl)), (10, .int .i64 ((k : Nat) : Int)), (54, .int .i64 (x48_call % (2 ^ 2 : Int))), (73, .pointer (some ⟨bp, 0, none⟩)), (77, .pointer (some (Addr.add (Addr.add adr60 (k * 4)) 3)))] [.pointer (some (Addr.add (Addr.add adr60 (k * 4)) 3))] 5 En63 (by kernel_rfl) (by kernel_rfl) rfl ?_
      intro ac64 En65
      refine from_op (by kernel_rfl) ?_
      refine op_loadf (d := some 78) (t := 22) (ad := adr60) (ao := a_l) (ys := List.flatMap (fun p : (Int) × (Int) × (Int) × (Sl UInt8) × Unit => (fun n : Int => [.int .i64 n]) p.1 ++ (fun p : (Int) × (Int) × (Sl UInt8) × Unit => (fun n : Int => [.int .i64 n]) p.1 ++ (fun p : (Int) × (Sl UInt8) × Unit => (fun n : Int => [.int .i64 n]) p.1 ++ (fun p : (Sl UInt8) × Unit => (fun s : Sl UInt8 => s.f) p.1 ++ (fun _ : Unit => []) p.2) p.2) p.2) p.2) l) (o := k * 4 + 3) (v := .slice a_x48_b (List.length x48_b) c_x48_b) En65 (by kernel_rfl) (Deep.add_add _ _ _) (i_l.ro.ev Hv35).reads had61 ((flat_get (sz := 4) (j := 3) (fun _ _ => rfl) hx47 (by decide)).trans rfl) (by kernel_rfl) ?_
      intro ac66 En67
      refine from_op (by kernel_rfl) ?_
      have hM69 : Heap wo33 [.box bp [.int .i64 ((r : Nat) : Int), .slice af1 (List.length fl) cf1, .slice ah1 (List.length hl) ch1, .bool false, .bool false] 62, .vec af1 cf1 1 (bys fl) 5, .vec ah1 ch1 1 (bys hl) 5] := Hv35.heap.pick [0, 1, 2] (by kernel_rfl) (by decide)
      refine op_call (d := some 79) (f := 17) (args := #[.pointer (some ⟨bp, 0, none⟩), .slice a_x48_b (List.length x48_b) c_x48_b]) En67 (by kernel_rfl) ((write_prog bp r fl hl _ _ _ _ _ hb h2 _ _ x48_b hM69 ((i_x48_b.ev Hv35).pick [0, 1, 2] (by kernel_rfl))).mono ?_)
      rintro _ wo71 ⟨afq68, cfq68, ahq68, chq68, rfl, he74⟩
      refine ⟨_, rfl, ?_⟩
      intro ac70 En72
      have Hv73 : Ev w [] wo71 [.box bp [.int .i64 ((r : Nat) : Int), .slice afq68 (List.length (fl ++ List.take (min (List.length x48_b) (r - List.length fl - List.length hl)) x48_b)) cfq68, .slice ahq68 (List.length hl) chq68, .bool false, .bool false] 62, .vec afq68 cfq68 1 (bys (fl ++ List.take (min (List.length x48_b) (r - List.length fl - List.length hl)) x48_b)) 5, .vec ahq68 chq68 1 (bys hl) 5] := Hv35.trans (Ev.call (R := []) Hv35.heap [0, 1, 2] (by kernel_rfl) (by decide) he74)
      clear hM69 he74
      have hmn : min (List.length x48_b) (r - List.length fl - List.length hl) ≤ List.length x48_b ∧ min (List.length x48_b) (r - List.length fl - List.length hl) ≤ r - List.length fl - List.length hl := by omega
      refine d_pures [(0, .int .i64 ((r : Nat) : Int)), (1, .slice a_l (List.length l) c_l), (5, .bool true), (6, .pointer (some ⟨bp, 0, none⟩)), (8, .string (bstr wl)), (9, .string (bstr rl)), (10, .int .i64 ((k : Nat) : Int)), (11, .int .i64 ((min (List.length x48_b) (r - List.length fl - List.length hl) : Nat) : Int)), (54, .int .i64 (x48_call % (2 ^ 2 : Int)))] [.int .i64 ((min (List.length x48_b) (r - List.length fl - List.length hl) : Nat) : Int)] 8 En72 (by kernel_rfl) (by kernel_rfl) rfl ?_
      intro ac75 En76
      refine from_end (by kernel_rfl) ?_
      refine then_normal ?_
      refine wp_seq ?_
      refine wp_seq ?_
      refine region_from ?_  -- region 17
      refine d_pures [(0, .int .i64 ((r : Nat) : Int)), (1, .slice a_l (List.length l) c_l), (5, .bool true), (6, .pointer (some ⟨bp, 0, none⟩)), (8, .string (bstr wl)), (9, .string (bstr rl)), (10, .int .i64 ((k : Nat) : Int)), (11, .int .i64 ((min (List.length x48_b) (r - List.length fl - List.length hl) : Nat) : Int)), (54, .int .i64 (x48_call % (2 ^ 2 : Int))), (81, .bool (decide (((min (List.length x48_b) (r - List.length fl - List.length hl) : Nat) : Int) < (0 : Int))))] [.int .i64 ((min (List.length x48_b) (r - List.length fl - List.length hl) : Nat) : Int), .bool (decide (((min (List.length x48_b) (r - List.length fl - List.length hl) : Nat) : Int) < (0 : Int)))] 2 En76 (by kernel_rfl) (by kernel_rfl) rfl ?_
      intro ac77 En78
      rw [show (decide (((min (List.length x48_b) (r - List.length fl - List.length hl) : Nat) : Int) < (0 : Int))) = false from (by first | omega | (simp; done) | (simp; omega))] at En78
      refine d_pures [(0, .int .i64 ((r : Nat) : Int)), (1, .slice a_l (List.length l) c_l), (5, .bool true), (6, .pointer (some ⟨bp, 0, none⟩)), (8, .string (bstr wl)), (9, .string (bstr rl)), (10, .int .i64 ((k : Nat) : Int)), (11, .int .i64 ((min (List.length x48_b) (r - List.length fl - List.length hl) : Nat) : Int)), (54, .int .i64 (x48_call % (2 ^ 2 : Int))), (82, .bool false), (83, .int .i64 ((min (List.length x48_b) (r - List.length fl - List.length hl) : Nat) : Int)), (84, .slice a_l (List.length l) c_l), (85, .int .i64 ((k : Nat) : Int))] [.bool false, .int .i64 ((min (List.length x48_b) (r - List.length fl - List.length hl) : Nat) : Int), .slice a_l (List.length l) c_l, .int .i64 ((k : Nat) : Int)] 6 En78 (by kernel_rfl) (by kernel_rfl) rfl ?_
      intro ac79 En80
      refine from_op (by kernel_rfl) ?_
      refine op_index (d := some 86) (t := 42) (e := 48) (sz := 4) (len := List.length l) (cap := c_l) (j := k) (ao := a_l) (k := .i64) (ix := ((k : Nat) : Int)) En80 (by kernel_rfl) i_l.nz (by kernel_rfl) (by kernel_rfl) (by omega) (by omega) (jo := k * 4) rfl ?_
      intro ac83 adr81 had82 En84
      refine d_pures [(0, .int .i64 ((r : Nat) : Int)), (1, .slice a_l (List.length l) c_l), (5, .bool true), (6, .pointer (some ⟨bp, 0, none⟩)), (8, .string (bstr wl)), (9, .string (bstr rl)), (10, .int .i64 ((k : Nat) : Int)), (11, .int .i64 ((min (List.length x48_b) (r - List.length fl - List.length hl) : Nat) : Int)), (54, .int .i64 (x48_call % (2 ^ 2 : Int))), (82, .bool false), (83, .int .i64 ((min (List.length x48_b) (r - List.length fl - List.length hl) : Nat) : Int)), (87, .pointer (some (Addr.add (Addr.add adr81 (k * 4)) 3)))] [.pointer (some (Addr.add (Addr.add adr81 (k * 4)) 3))] 8 En84 (by kernel_rfl) (by kernel_rfl) rfl ?_
      intro ac85 En86
      refine from_op (by kernel_rfl) ?_
      refine op_loadf (d := some 88) (t := 22) (ad := adr81) (ao := a_l) (ys := List.flatMap (fun p : (Int) × (Int) × (Int) × (Sl UInt8) × Unit => (fun n : Int => [.int .i64 n]) p.1 ++ (fun p : (Int) × (Int) × (Sl UInt8) × Unit => (fun n : Int => [.int .i64 n]) p.1 ++ (fun p : (Int) × (Sl UInt8) × Unit => (fun n : Int => [.int .i64 n]) p.1 ++ (fun p : (Sl UInt8) × Unit => (fun s : Sl UInt8 => s.f) p.1 ++ (fun _ : Unit => []) p.2) p.2) p.2) p.2) l) (o := k * 4 + 3) (v := .slice a_x48_b (List.length x48_b) c_x48_b) En86 (by kernel_rfl) (Deep.add_add _ _ _) (i_l.ro.ev Hv73).reads had82 ((flat_get (sz := 4) (j := 3) (fun _ _ => rfl) hx47 (by decide)).trans rfl) (by kernel_rfl) ?_
      intro ac87 En88
      refine d_pures [(0, .int .i64 ((r : Nat) : Int)), (1, .slice a_l (List.length l) c_l), (5, .bool true), (6, .pointer (some ⟨bp, 0, none⟩)), (8, .string (bstr wl)), (9, .string (bstr rl)), (10, .int .i64 ((k : Nat) : Int)), (11, .int .i64 ((min (List.length x48_b) (r - List.length fl - List.length hl) : Nat) : Int)), (54, .int .i64 (x48_call % (2 ^ 2 : Int))), (82, .bool false), (90, .bool (decide (((min (List.length x48_b) (r - List.length fl - List.length hl) : Nat) : Int) > ((List.length x48_b : Nat) : Int))))] [.int .i64 ((List.length x48_b : Nat) : Int), .bool (decide (((min (List.length x48_b) (r - List.length fl - List.length hl) : Nat) : Int) > ((List.length x48_b : Nat) : Int)))] 11 En88 (by kernel_rfl) (by kernel_rfl) rfl ?_
      intro ac89 En90
      rw [show (decide (((min (List.length x48_b) (r - List.length fl - List.length hl) : Nat) : Int) > ((List.length x48_b : Nat) : Int))) = false from (by first | omega | (simp; done) | (simp; omega))] at En90
      refine d_pures [(0, .int .i64 ((r : Nat) : Int)), (1, .slice a_l (List.length l) c_l), (5, .bool true), (6, .pointer (some ⟨bp, 0, none⟩)), (8, .string (bstr wl)), (9, .string (bstr rl)), (10, .int .i64 ((k : Nat) : Int)), (11, .int .i64 ((min (List.length x48_b) (r - List.length fl - List.length hl) : Nat) : Int)), (54, .int .i64 (x48_call % (2 ^ 2 : Int))), (91, .bool false)] [.bool false] 12 En90 (by kernel_rfl) (by kernel_rfl) rfl ?_
      intro ac91 En92
      refine from_end (by kernel_rfl) ?_
      refine then_normal ?_
      refine cond_false En92 (t := false) (by kernel_rfl) rfl ?_
      refine wp_skip ?_
      refine then_normal ?_
      refine region_from ?_  -- region 19
      refine d_pures [(0, .int .i64 ((r : Nat) : Int)), (1, .slice a_l (List.length l) c_l), (5, .bool true), (6, .pointer (some ⟨bp, 0, none⟩)), (8, .string (bstr wl)), (9, .string (bstr rl)), (10, .int .i64 ((k : Nat) : Int)), (11, .int .i64 ((min (List.length x48_b) (r - List.length fl - List.length hl) : Nat) : Int)), (54, .int .i64 (x48_call % (2 ^ 2 : Int))), (92, .string (bstr wl)), (93, .slice a_l (List.length l) c_l), (94, .int .i64 ((k : Nat) : Int))] [.string (bstr wl), .slice a_l (List.length l) c_l, .int .i64 ((k : Nat) : Int)] 3 En92 (by kernel_rfl) (by kernel_rfl) rfl ?_
      intro ac93 En94
      refine from_op (by kernel_rfl) ?_
      refine op_index (d := some 95) (t := 42) (e := 48) (sz := 4) (len := List.length l) (cap := c_l) (j := k) (ao := a_l) (k := .i64) (ix := ((k : Nat) : Int)) En94 (by kernel_rfl) i_l.nz (by kernel_rfl) (by kernel_rfl) (by omega) (by omega) (jo := k * 4) rfl ?_
      intro ac97 adr95 had96 En98
      refine d_pures [(0, .int .i64 ((r : Nat) : Int)), (1, .slice a_l (List.length l) c_l), (5, .bool true), (6, .pointer (some ⟨bp, 0, none⟩)), (8, .string (bstr wl)), (9, .string (bstr rl)), (10, .int .i64 ((k : Nat) : Int)), (11, .int .i64 ((min (List.length x48_b) (r - List.length fl - List.length hl) : Nat) : Int)), (54, .int .i64 (x48_call % (2 ^ 2 : Int))), (92, .string (bstr wl)), (96, .pointer (some (Addr.add (Addr.add adr95 (k * 4)) 3)))] [.pointer (some (Addr.add (Addr.add adr95 (k * 4)) 3))] 5 En98 (by kernel_rfl) (by kernel_rfl) rfl ?_
      intro ac99 En100
      refine from_op (by kernel_rfl) ?_
      refine op_loadf (d := some 97) (t := 22) (ad := adr95) (ao := a_l) (ys := List.flatMap (fun p : (Int) × (Int) × (Int) × (Sl UInt8) × Unit => (fun n : Int => [.int .i64 n]) p.1 ++ (fun p : (Int) × (Int) × (Sl UInt8) × Unit => (fun n : Int => [.int .i64 n]) p.1 ++ (fun p : (Int) × (Sl UInt8) × Unit => (fun n : Int => [.int .i64 n]) p.1 ++ (fun p : (Sl UInt8) × Unit => (fun s : Sl UInt8 => s.f) p.1 ++ (fun _ : Unit => []) p.2) p.2) p.2) p.2) l) (o := k * 4 + 3) (v := .slice a_x48_b (List.length x48_b) c_x48_b) En100 (by kernel_rfl) (Deep.add_add _ _ _) (i_l.ro.ev Hv73).reads had96 ((flat_get (sz := 4) (j := 3) (fun _ _ => rfl) hx47 (by decide)).trans rfl) (by kernel_rfl) ?_
      intro ac101 En102
      refine d_pures [(0, .int .i64 ((r : Nat) : Int)), (1, .slice a_l (List.length l) c_l), (5, .bool true), (6, .pointer (some ⟨bp, 0, none⟩)), (8, .string (bstr wl)), (9, .string (bstr rl)), (10, .int .i64 ((k : Nat) : Int)), (11, .int .i64 ((min (List.length x48_b) (r - List.length fl - List.length hl) : Nat) : Int)), (54, .int .i64 (x48_call % (2 ^ 2 : Int))), (92, .string (bstr wl)), (97, .slice a_x48_b (List.length x48_b) c_x48_b), (98, .int .i64 ((min (List.length x48_b) (r - List.length fl - List.length hl) : Nat) : Int))] [.int .i64 ((min (List.length x48_b) (r - List.length fl - List.length hl) : Nat) : Int)] 7 En102 (by kernel_rfl) (by kernel_rfl) rfl ?_
      intro ac103 En104
      refine from_op (by kernel_rfl) ?_
      have hcap105 := i_x48_b.cap
      refine op_slice0 (d := some 99) (t := 22) (e := 5) (sz := 1) (len := List.length x48_b) (cap := c_x48_b) (hi := min (List.length x48_b) (r - List.length fl - List.length hl)) (ao := a_x48_b) (lov := none) (hiv := (some (.int .i64 ((min (List.length x48_b) (r - List.length fl - List.length hl) : Nat) : Int)))) En104 (by kernel_rfl) (by kernel_rfl) (by kernel_rfl) (by omega) (.inl ⟨rfl, rfl⟩) (.inr ⟨.i64, rfl⟩) ?_
      intro ac106 En107
      refine from_op (by kernel_rfl) ?_
      refine op_str (d := some 100) (src := 22) (dst := 9) (e := 5) (ao := a_x48_b) (cap := c_x48_b) (p := min (List.length x48_b) (r - List.length fl - List.length hl)) (bs := List.take (min (List.length x48_b) (r - List.length fl - List.length hl)) x48_b) En107 (by kernel_rfl) (by first | (simp; done) | (simp; omega) | omega) (by kernel_rfl) (by kernel_rfl) (by kernel_rfl) (bys_take_reads (i_x48_b.ev Hv73).reads (min (List.length x48_b) (r - List.length fl - List.length hl))) (fun e => by have := i_x48_b.nz e; omega) ?_
      intro ac108 En109
      refine from_op (by kernel_rfl) ?_
      refine op_val (d := some 101) (x := Op.stringOp .add (bstr wl) (bstr (List.take (min (List.length x48_b) (r - List.length fl - List.length hl)) x48_b))) (v := .string (bstr (wl ++ (List.take (min (List.length x48_b) (r - List.length fl - List.length hl)) x48_b)))) En109 (by kernel_rfl) (Go.Dbr.run_add_str wl (List.take (min (List.length x48_b) (r - List.length fl - List.length hl)) x48_b) (by simp; omega) _) ?_
      intro ac110 En111
      refine d_pures [(0, .int .i64 ((r : Nat) : Int)), (1, .slice a_l (List.length l) c_l), (5, .bool true), (6, .pointer (some ⟨bp, 0, none⟩)), (8, .string (bstr (wl ++ (List.take (min (List.length x48_b) (r - List.length fl - List.length hl)) x48_b)))), (9, .string (bstr rl)), (10, .int .i64 ((k : Nat) : Int)), (11, .int .i64 ((min (List.length x48_b) (r - List.length fl - List.length hl) : Nat) : Int)), (54, .int .i64 (x48_call % (2 ^ 2 : Int)))] [.string (bstr (wl ++ (List.take (min (List.length x48_b) (r - List.length fl - List.length hl)) x48_b)))] 11 En111 (by kernel_rfl) (by kernel_rfl) rfl ?_
      intro ac112 En113
      refine from_end (by kernel_rfl) ?_
      refine block_normal ?_
      refine block_normal ?_
      refine then_normal ?_
      refine region_from ?_  -- region 9
      refine d_pures [(0, .int .i64 ((r : Nat) : Int)), (1, .slice a_l (List.length l) c_l), (5, .bool true), (6, .pointer (some ⟨bp, 0, none⟩)), (8, .string (bstr (wl ++ (List.take (min (List.length x48_b) (r - List.length fl - List.length hl)) x48_b)))), (9, .string (bstr rl)), (10, .int .i64 ((k : Nat) : Int)), (11, .int .i64 ((min (List.length x48_b) (r - List.length fl - List.length hl) : Nat) : Int)), (48, .int .i64 (IntKind.wrap .i64 (((k : Nat) : Int) + (1 : Int)))), (54, .int .i64 (x48_call % (2 ^ 2 : Int)))] [.int .i64 ((k : Nat) : Int), .int .i64 (IntKind.wrap .i64 (((k : Nat) : Int) + (1 : Int)))] 2 En113 (by kernel_rfl) (by kernel_rfl) rfl ?_
      intro ac114 En115
      rw [Go.Dbr.wr64 (e := ((k : Nat) : Int) + (1 : Int)) (x := ((k + 1 : Nat) : Int)) (by omega) (by omega) (by omega)] at En115
      refine d_pures [(0, .int .i64 ((r : Nat) : Int)), (1, .slice a_l (List.length l) c_l), (5, .bool true), (6, .pointer (some ⟨bp, 0, none⟩)), (8, .string (bstr (wl ++ (List.take (min (List.length x48_b) (r - List.length fl - List.length hl)) x48_b)))), (9, .string (bstr rl)), (10, .int .i64 ((k + 1 : Nat) : Int)), (11, .int .i64 ((min (List.length x48_b) (r - List.length fl - List.length hl) : Nat) : Int)), (54, .int .i64 (x48_call % (2 ^ 2 : Int)))] [.int .i64 ((k + 1 : Nat) : Int)] 3 En115 (by kernel_rfl) (by kernel_rfl) rfl ?_
      intro ac116 En117
      refine from_end (by kernel_rfl) ?_
      refine then_normal ?_
      refine ⟨_, ⟨k + 1, wl ++ (List.take (min (List.length x48_b) (r - List.length fl - List.length hl)) x48_b), rl, fl ++ List.take (min (List.length x48_b) (r - List.length fl - List.length hl)) x48_b, hl, afq68, cfq68, ahq68, chq68, rfl, En117.sub (by kernel_rfl), Hv73.pick [0, 1, 2] (by kernel_rfl) (by decide), by omega, by first | exact hw1 | exact order_write hw1 _ | exact order_move hw1 _ | exact order_read hw1 _, by first | omega | (simp; omega), by first | omega | (simp; omega), by first | omega | (simp; omega)⟩, ?_⟩
      omega
    ·
      replace hc57 : ¬ (x48_call % (2 ^ 2 : Int) = (0 : Int)) := by simpa using hc57
      refine wp_seq ?_
      refine region_from ?_  -- region 20
      refine d_pures [(0, .int .i64 ((r : Nat) : Int)), (1, .slice a_l (List.length l) c_l), (5, .bool true), (6, .pointer (some ⟨bp, 0, none⟩)), (8, .string (bstr wl)), (9, .string (bstr rl)), (10, .int .i64 ((k : Nat) : Int)), (54, .int .i64 (x48_call % (2 ^ 2 : Int))), (102, .bool (x48_call % (2 ^ 2 : Int) == (1 : Int)))] [.bool (x48_call % (2 ^ 2 : Int) == (1 : Int)), .bool (x48_call % (2 ^ 2 : Int) == (1 : Int))] 2 En56 (by kernel_rfl) (by kernel_rfl) rfl ?_
      intro ac118 En119
      refine from_end (by kernel_rfl) ?_
      refine then_normal ?_
      refine cond_at En119 (t := x48_call % (2 ^ 2 : Int) == (1 : Int)) (by kernel_rfl) (fun hc120 => ?_) (fun hc120 => ?_)
      ·
        replace hc120 : x48_call % (2 ^ 2 : Int) = (1 : Int) := by simpa using hc120
        refine region_from ?_  -- region 21
        refine d_pures [(0, .int .i64 ((r : Nat) : Int)), (1, .slice a_l (List.length l) c_l), (5, .bool true), (6, .pointer (some ⟨bp, 0, none⟩)), (8, .string (bstr wl)), (9, .string (bstr rl)), (10, .int .i64 ((k : Nat) : Int)), (54, .int .i64 (x48_call % (2 ^ 2 : Int))), (104, .pointer (some ⟨bp, 0, none⟩)), (105, .slice a_l (List.length l) c_l), (106, .int .i64 ((k : Nat) : Int))] [.pointer (some ⟨bp, 0, none⟩), .slice a_l (List.length l) c_l, .int .i64 ((k : Nat) : Int)] 3 En119 (by kernel_rfl) (by kernel_rfl) rfl ?_
        intro ac121 En122
        refine from_op (by kernel_rfl) ?_
        refine op_index (d := some 107) (t := 42) (e := 48) (sz := 4) (len := List.length l) (cap := c_l) (j := k) (ao := a_l) (k := .i64) (ix := ((k : Nat) : Int)) En122 (by kernel_rfl) i_l.nz (by kernel_rfl) (by kernel_rfl) (by omega) (by omega) (jo := k * 4) rfl ?_
        intro ac125 adr123 had124 En126
        refine d_pures [(0, .int .i64 ((r : Nat) : Int)), (1, .slice a_l (List.length l) c_l), (5, .bool true), (6, .pointer (some ⟨bp, 0, none⟩)), (8, .string (bstr wl)), (9, .string (bstr rl)), (10, .int .i64 ((k : Nat) : Int)), (54, .int .i64 (x48_call % (2 ^ 2 : Int))), (104, .pointer (some ⟨bp, 0, none⟩)), (108, .pointer (some (Addr.add (Addr.add adr123 (k * 4)) 2)))] [.pointer (some (Addr.add (Addr.add adr123 (k * 4)) 2))] 5 En126 (by kernel_rfl) (by kernel_rfl) rfl ?_
        intro ac127 En128
        refine from_op (by kernel_rfl) ?_
        refine op_loadf (d := some 109) (t := 3) (ad := adr123) (ao := a_l) (ys := List.flatMap (fun p : (Int) × (Int) × (Int) × (Sl UInt8) × Unit => (fun n : Int => [.int .i64 n]) p.1 ++ (fun p : (Int) × (Int) × (Sl UInt8) × Unit => (fun n : Int => [.int .i64 n]) p.1 ++ (fun p : (Int) × (Sl UInt8) × Unit => (fun n : Int => [.int .i64 n]) p.1 ++ (fun p : (Sl UInt8) × Unit => (fun s : Sl UInt8 => s.f) p.1 ++ (fun _ : Unit => []) p.2) p.2) p.2) p.2) l) (o := k * 4 + 2) (v := .int .i64 x48_n) En128 (by kernel_rfl) (Deep.add_add _ _ _) (i_l.ro.ev Hv35).reads had124 ((flat_get (sz := 4) (j := 2) (fun _ _ => rfl) hx47 (by decide)).trans rfl) (by kernel_rfl) ?_
        intro ac129 En130
        refine from_op (by kernel_rfl) ?_
        have hM132 : Heap wo33 [.box bp [.int .i64 ((r : Nat) : Int), .slice af1 (List.length fl) cf1, .slice ah1 (List.length hl) ch1, .bool false, .bool false] 62, .vec af1 cf1 1 (bys fl) 5, .vec ah1 ch1 1 (bys hl) 5] := Hv35.heap.pick [0, 1, 2] (by kernel_rfl) (by decide)
        refine op_call (d := some 110) (f := 18) (args := #[.pointer (some ⟨bp, 0, none⟩), .int .i64 x48_n]) En130 (by kernel_rfl) ((move_prog bp r fl hl _ _ _ _ _ hb h2 _ x48_n hM132).mono ?_)
        rintro _ wo134 ⟨afq131, cfq131, ahq131, chq131, rfl, he137⟩
        refine ⟨_, rfl, ?_⟩
        intro ac133 En135
        have Hv136 : Ev w [] wo134 [.box bp [.int .i64 ((r : Nat) : Int), .slice afq131 (List.length (List.drop (clampTo x48_n (List.length fl)) fl)) cfq131, .slice ahq131 (List.length (hl ++ List.take (clampTo x48_n (List.length fl)) fl)) chq131, .bool false, .bool false] 62, .vec afq131 cfq131 1 (bys (List.drop (clampTo x48_n (List.length fl)) fl)) 5, .vec ahq131 chq131 1 (bys (hl ++ List.take (clampTo x48_n (List.length fl)) fl)) 5] := Hv35.trans (Ev.call (R := []) Hv35.heap [0, 1, 2] (by kernel_rfl) (by decide) he137)
        clear hM132 he137
        refine from_end (by kernel_rfl) ?_
        refine block_normal ?_
        refine block_normal ?_
        refine then_normal ?_
        refine region_from ?_  -- region 9
        refine d_pures [(0, .int .i64 ((r : Nat) : Int)), (1, .slice a_l (List.length l) c_l), (5, .bool true), (6, .pointer (some ⟨bp, 0, none⟩)), (8, .string (bstr wl)), (9, .string (bstr rl)), (10, .int .i64 ((k : Nat) : Int)), (48, .int .i64 (IntKind.wrap .i64 (((k : Nat) : Int) + (1 : Int)))), (54, .int .i64 (x48_call % (2 ^ 2 : Int)))] [.int .i64 ((k : Nat) : Int), .int .i64 (IntKind.wrap .i64 (((k : Nat) : Int) + (1 : Int)))] 2 En135 (by kernel_rfl) (by kernel_rfl) rfl ?_
        intro ac138 En139
        rw [Go.Dbr.wr64 (e := ((k : Nat) : Int) + (1 : Int)) (x := ((k + 1 : Nat) : Int)) (by omega) (by omega) (by omega)] at En139
        refine d_pures [(0, .int .i64 ((r : Nat) : Int)), (1, .slice a_l (List.length l) c_l), (5, .bool true), (6, .pointer (some ⟨bp, 0, none⟩)), (8, .string (bstr wl)), (9, .string (bstr rl)), (10, .int .i64 ((k + 1 : Nat) : Int)), (54, .int .i64 (x48_call % (2 ^ 2 : Int)))] [.int .i64 ((k + 1 : Nat) : Int)] 3 En139 (by kernel_rfl) (by kernel_rfl) rfl ?_
        intro ac140 En141
        refine from_end (by kernel_rfl) ?_
        refine then_normal ?_
        refine ⟨_, ⟨k + 1, wl, rl, List.drop (clampTo x48_n (List.length fl)) fl, hl ++ List.take (clampTo x48_n (List.length fl)) fl, afq131, cfq131, ahq131, chq131, rfl, En141.sub (by kernel_rfl), Hv136.pick [0, 1, 2] (by kernel_rfl) (by decide), by omega, by first | exact hw1 | exact order_write hw1 _ | exact order_move hw1 _ | exact order_read hw1 _, by first | omega | (simp; omega), by first | omega | (simp; omega), by first | omega | (simp; omega)⟩, ?_⟩
        omega
      ·
        replace hc120 : ¬ (x48_call % (2 ^ 2 : Int) = (1 : Int)) := by simpa using hc120
        refine wp_seq ?_
        refine region_from ?_  -- region 11
        refine d_pures [(0, .int .i64 ((r : Nat) : Int)), (1, .slice a_l (List.length l) c_l), (5, .bool true), (6, .pointer (some ⟨bp, 0, none⟩)), (8, .string (bstr wl)), (9, .string (bstr rl)), (10, .int .i64 ((k : Nat) : Int)), (54, .int .i64 (x48_call % (2 ^ 2 : Int))), (56, .pointer (some ⟨bp, 0, none⟩)), (57, .slice a_l (List.length l) c_l), (58, .int .i64 ((k : Nat) : Int))] [.pointer (some ⟨bp, 0, none⟩), .slice a_l (List.length l) c_l, .int .i64 ((k : Nat) : Int)] 3 En119 (by kernel_rfl) (by kernel_rfl) rfl ?_
        intro ac142 En143
        refine from_op (by kernel_rfl) ?_
        refine op_index (d := some 59) (t := 42) (e := 48) (sz := 4) (len := List.length l) (cap := c_l) (j := k) (ao := a_l) (k := .i64) (ix := ((k : Nat) : Int)) En143 (by kernel_rfl) i_l.nz (by kernel_rfl) (by kernel_rfl) (by omega) (by omega) (jo := k * 4) rfl ?_
        intro ac146 adr144 had145 En147
        refine d_pures [(0, .int .i64 ((r : Nat) : Int)), (1, .slice a_l (List.length l) c_l), (5, .bool true), (6, .pointer (some ⟨bp, 0, none⟩)), (8, .string (bstr wl)), (9, .string (bstr rl)), (10, .int .i64 ((k : Nat) : Int)), (54, .int .i64 (x48_call % (2 ^ 2 : Int))), (56, .pointer (some ⟨bp, 0, none⟩)), (60, .pointer (some (Addr.add (Addr.add adr144 (k * 4)) 2)))] [.pointer (some (Addr.add (Addr.add adr144 (k * 4)) 2))] 5 En147 (by kernel_rfl) (by kernel_rfl) rfl ?_
        intro ac148 En149
        refine from_op (by kernel_rfl) ?_
        refine op_loadf (d := some 61) (t := 3) (ad := adr144) (ao := a_l) (ys := List.flatMap (fun p : (Int) × (Int) × (Int) × (Sl UInt8) × Unit => (fun n : Int => [.int .i64 n]) p.1 ++ (fun p : (Int) × (Int) × (Sl UInt8) × Unit => (fun n : Int => [.int .i64 n]) p.1 ++ (fun p : (Int) × (Sl UInt8) × Unit => (fun n : Int => [.int .i64 n]) p.1 ++ (fun p : (Sl UInt8) × Unit => (fun s : Sl UInt8 => s.f) p.1 ++ (fun _ : Unit => []) p.2) p.2) p.2) p.2) l) (o := k * 4 + 2) (v := .int .i64 x48_n) En149 (by kernel_rfl) (Deep.add_add _ _ _) (i_l.ro.ev Hv35).reads had145 ((flat_get (sz := 4) (j := 2) (fun _ _ => rfl) hx47 (by decide)).trans rfl) (by kernel_rfl) ?_
        intro ac150 En151
        refine from_op (by kernel_rfl) ?_
        have hM154 : Heap wo33 [.box bp [.int .i64 ((r : Nat) : Int), .slice af1 (List.length fl) cf1, .slice ah1 (List.length hl) ch1, .bool false, .bool false] 62, .vec af1 cf1 1 (bys fl) 5, .vec ah1 ch1 1 (bys hl) 5] := Hv35.heap.pick [0, 1, 2] (by kernel_rfl) (by decide)
        refine op_call (d := some 62) (f := 19) (args := #[.pointer (some ⟨bp, 0, none⟩), .int .i64 x48_n]) En151 (by kernel_rfl) ((read_open bp r fl hl _ _ _ _ _ hb h2 x48_n hM154).mono ?_)
        rintro _ wo156 ⟨afq153, cfq153, ahq153, chq153, aor152, cor152, rfl, he159⟩
        refine ⟨_, rfl, ?_⟩
        intro ac155 En157
        have Hv158 : Ev w [] wo156 [.box bp [.int .i64 ((r : Nat) : Int), .slice afq153 (List.length fl) cfq153, .slice ahq153 (List.length (List.drop (clampTo x48_n (List.length hl)) hl)) chq153, .bool false, .bool false] 62, .vec afq153 cfq153 1 (bys fl) 5, .vec ahq153 chq153 1 (bys (List.drop (clampTo x48_n (List.length hl)) hl)) 5, .vec aor152 cor152 1 (bys (List.take (clampTo x48_n (List.length hl)) hl)) 5] := Hv35.trans (Ev.call (R := []) Hv35.heap [0, 1, 2] (by kernel_rfl) (by decide) he159)
        clear hM154 he159
        refine d_pures [(0, .int .i64 ((r : Nat) : Int)), (1, .slice a_l (List.length l) c_l), (5, .bool true), (6, .pointer (some ⟨bp, 0, none⟩)), (8, .string (bstr wl)), (9, .string (bstr rl)), (10, .int .i64 ((k : Nat) : Int)), (12, .slice aor152 (List.length (List.take (clampTo x48_n (List.length hl)) hl)) cor152), (13, .int .i64 1), (54, .int .i64 (x48_call % (2 ^ 2 : Int)))] [.tuple #[.slice aor152 (List.length (List.take (clampTo x48_n (List.length hl)) hl)) cor152, .int .i64 1], .slice aor152 (List.length (List.take (clampTo x48_n (List.length hl)) hl)) cor152, .int .i64 1, .slice aor152 (List.length (List.take (clampTo x48_n (List.length hl)) hl)) cor152, .int .i64 1] 12 En157 (by kernel_rfl) (by kernel_rfl) rfl ?_
        intro ac160 En161
        refine from_end (by kernel_rfl) ?_
        refine then_normal ?_
        refine wp_seq ?_
        refine wp_seq ?_
        refine region_from ?_  -- region 12
        refine d_pures [(0, .int .i64 ((r : Nat) : Int)), (1, .slice a_l (List.length l) c_l), (5, .bool true), (6, .pointer (some ⟨bp, 0, none⟩)), (8, .string (bstr wl)), (9, .string (bstr rl)), (10, .int .i64 ((k : Nat) : Int)), (12, .slice aor152 (List.length (List.take (clampTo x48_n (List.length hl)) hl)) cor152), (54, .int .i64 (x48_call % (2 ^ 2 : Int))), (66, .bool false)] [.int .i64 1, .bool false] 2 En161 (by kernel_rfl) (by kernel_rfl) rfl ?_
        intro ac162 En163
        refine from_end (by kernel_rfl) ?_
        refine then_normal ?_
        refine cond_false En163 (t := false) (by kernel_rfl) rfl ?_
        refine wp_skip ?_
        refine then_normal ?_
        refine region_from ?_  -- region 14
        refine d_pures [(0, .int .i64 ((r : Nat) : Int)), (1, .slice a_l (List.length l) c_l), (5, .bool true), (6, .pointer (some ⟨bp, 0, none⟩)), (8, .string (bstr wl)), (9, .string (bstr rl)), (10, .int .i64 ((k : Nat) : Int)), (54, .int .i64 (x48_call % (2 ^ 2 : Int))), (67, .string (bstr rl)), (68, .slice aor152 (List.length (List.take (clampTo x48_n (List.length hl)) hl)) cor152)] [.string (bstr rl), .slice aor152 (List.length (List.take (clampTo x48_n (List.length hl)) hl)) cor152] 2 En163 (by kernel_rfl) (by kernel_rfl) rfl ?_
        intro ac164 En165
        refine from_op (by kernel_rfl) ?_
        refine op_str (d := some 69) (src := 22) (dst := 9) (e := 5) (ao := aor152) (cap := cor152) (p := List.length (List.take (clampTo x48_n (List.length hl)) hl)) (bs := List.take (clampTo x48_n (List.length hl)) hl) En165 (by kernel_rfl) rfl (by kernel_rfl) (by kernel_rfl) (by kernel_rfl) (Hv158.heap.reads (k := 3) rfl) (bys_vnz Hv158.heap (k := 3) rfl) ?_
        intro ac166 En167
        refine from_op (by kernel_rfl) ?_
        refine op_val (d := some 70) (x := Op.stringOp .add (bstr rl) (bstr (List.take (clampTo x48_n (List.length hl)) hl))) (v := .string (bstr (rl ++ (List.take (clampTo x48_n (List.length hl)) hl)))) En167 (by kernel_rfl) (Go.Dbr.run_add_str rl (List.take (clampTo x48_n (List.length hl)) hl) (by simp; omega) _) ?_
        intro ac168 En169
        refine d_pures [(0, .int .i64 ((r : Nat) : Int)), (1, .slice a_l (List.length l) c_l), (5, .bool true), (6, .pointer (some ⟨bp, 0, none⟩)), (8, .string (bstr wl)), (9, .string (bstr (rl ++ (List.take (clampTo x48_n (List.length hl)) hl)))), (10, .int .i64 ((k : Nat) : Int)), (54, .int .i64 (x48_call % (2 ^ 2 : Int)))] [.string (bstr (rl ++ (List.take (clampTo x48_n (List.length hl)) hl)))] 5 En169 (by kernel_rfl) (by kernel_rfl) rfl ?_
        intro ac170 En171
        refine from_end (by kernel_rfl) ?_
        refine block_normal ?_
        refine block_normal ?_
        refine then_normal ?_
        refine region_from ?_  -- region 9
        refine d_pures [(0, .int .i64 ((r : Nat) : Int)), (1, .slice a_l (List.length l) c_l), (5, .bool true), (6, .pointer (some ⟨bp, 0, none⟩)), (8, .string (bstr wl)), (9, .string (bstr (rl ++ (List.take (clampTo x48_n (List.length hl)) hl)))), (10, .int .i64 ((k : Nat) : Int)), (48, .int .i64 (IntKind.wrap .i64 (((k : Nat) : Int) + (1 : Int)))), (54, .int .i64 (x48_call % (2 ^ 2 : Int)))] [.int .i64 ((k : Nat) : Int), .int .i64 (IntKind.wrap .i64 (((k : Nat) : Int) + (1 : Int)))] 2 En171 (by kernel_rfl) (by kernel_rfl) rfl ?_
        intro ac172 En173
        rw [Go.Dbr.wr64 (e := ((k : Nat) : Int) + (1 : Int)) (x := ((k + 1 : Nat) : Int)) (by omega) (by omega) (by omega)] at En173
        refine d_pures [(0, .int .i64 ((r : Nat) : Int)), (1, .slice a_l (List.length l) c_l), (5, .bool true), (6, .pointer (some ⟨bp, 0, none⟩)), (8, .string (bstr wl)), (9, .string (bstr (rl ++ (List.take (clampTo x48_n (List.length hl)) hl)))), (10, .int .i64 ((k + 1 : Nat) : Int)), (54, .int .i64 (x48_call % (2 ^ 2 : Int)))] [.int .i64 ((k + 1 : Nat) : Int)] 3 En173 (by kernel_rfl) (by kernel_rfl) rfl ?_
        intro ac174 En175
        refine from_end (by kernel_rfl) ?_
        refine then_normal ?_
        refine ⟨_, ⟨k + 1, wl, rl ++ (List.take (clampTo x48_n (List.length hl)) hl), fl, List.drop (clampTo x48_n (List.length hl)) hl, afq153, cfq153, ahq153, chq153, rfl, En175.sub (by kernel_rfl), Hv158.pick [0, 1, 2] (by kernel_rfl) (by decide), by omega, by first | exact hw1 | exact order_write hw1 _ | exact order_move hw1 _ | exact order_read hw1 _, by first | omega | (simp; omega), by first | omega | (simp; omega), by first | omega | (simp; omega)⟩, ?_⟩
        omega
  ·
    replace hc39 : ¬ (((k : Nat) : Int) < ((List.length l : Nat) : Int)) := by simpa using hc39
    refine wp_exit ?_
    refine then_exit ?_
    refine then_exit ?_
    refine block_exit ?_
    refine then_normal ?_
    refine wp_seq ?_
    refine region_from ?_  -- region 22
    refine d_pures [(0, .int .i64 ((r : Nat) : Int)), (1, .slice a_l (List.length l) c_l), (5, .bool true), (6, .pointer (some ⟨bp, 0, none⟩)), (8, .string (bstr wl)), (9, .string (bstr rl)), (10, .int .i64 ((k : Nat) : Int)), (111, .pointer (some ⟨bp, 0, none⟩))] [.pointer (some ⟨bp, 0, none⟩)] 1 En38 (by kernel_rfl) (by kernel_rfl) rfl ?_
    intro ac176 En177
    refine from_op (by kernel_rfl) ?_
    have hM178 : Heap wo33 [.box bp [.int .i64 ((r : Nat) : Int), .slice af1 (List.length fl) cf1, .slice ah1 (List.length hl) ch1, .bool false, .bool false] 62] := Hv35.heap.pick [0] (by kernel_rfl) (by decide)
    refine op_call (d := some 112) (f := 20) (args := #[.pointer (some ⟨bp, 0, none⟩)]) En177 (by kernel_rfl) ((close_prog bp _ _ _ _ _ _ hM178).mono ?_)
    rintro _ wo180 ⟨rfl, he183⟩
    refine ⟨_, rfl, ?_⟩
    intro ac179 En181
    have Hv182 : Ev w [] wo180 [.box bp [.int .i64 ((r : Nat) : Int), .slice af1 (List.length fl) cf1, .slice ah1 (List.length hl) ch1, .bool true, .bool false] 62, .vec af1 cf1 1 (bys fl) 5, .vec ah1 ch1 1 (bys hl) 5] := Hv35.trans (Ev.call (R := [.vec af1 cf1 1 (bys fl) 5, .vec ah1 ch1 1 (bys hl) 5]) Hv35.heap [0, 1, 2] (by kernel_rfl) (by decide) he183)
    clear hM178 he183
    refine from_end (by kernel_rfl) ?_
    refine then_normal ?_
    refine wp_seq ?_
    refine region_from ?_  -- region 23
    refine d_pures [(0, .int .i64 ((r : Nat) : Int)), (1, .slice a_l (List.length l) c_l), (5, .bool true), (6, .pointer (some ⟨bp, 0, none⟩)), (8, .string (bstr wl)), (9, .string (bstr rl)), (10, .int .i64 ((k : Nat) : Int)), (113, .pointer (some ⟨bp, 0, none⟩))] [.pointer (some ⟨bp, 0, none⟩)] 1 En181 (by kernel_rfl) (by kernel_rfl) rfl ?_
    intro ac184 En185
    refine from_op (by kernel_rfl) ?_
    have hM186 : Heap wo180 [.box bp [.int .i64 ((r : Nat) : Int), .slice af1 (List.length fl) cf1, .slice ah1 (List.length hl) ch1, .bool true, .bool false] 62, .vec af1 cf1 1 (bys fl) 5, .vec ah1 ch1 1 (bys hl) 5] := Hv182.heap.pick [0, 1, 2] (by kernel_rfl) (by decide)
    refine op_call (d := some 114) (f := 18) (args := #[.pointer (some ⟨bp, 0, none⟩), .int .i64 65536]) En185 (by kernel_rfl) ((move_prog bp r fl hl _ _ _ _ _ hb h2 _ _ hM186).mono ?_)
    rintro _ wo188 ⟨afz, cfz, ahz, chz, rfl, he191⟩
    refine ⟨_, rfl, ?_⟩
    intro ac187 En189
    have Hv190 : Ev w [] wo188 [.box bp [.int .i64 ((r : Nat) : Int), .slice afz (List.length (List.drop (clampTo 65536 (List.length fl)) fl)) cfz, .slice ahz (List.length (hl ++ List.take (clampTo 65536 (List.length fl)) fl)) chz, .bool true, .bool false] 62, .vec afz cfz 1 (bys (List.drop (clampTo 65536 (List.length fl)) fl)) 5, .vec ahz chz 1 (bys (hl ++ List.take (clampTo 65536 (List.length fl)) fl)) 5] := Hv182.trans (Ev.call (R := []) Hv182.heap [0, 1, 2] (by kernel_rfl) (by decide) he191)
    clear hM186 he191
    rw [clampTo_all 65536 (List.length fl) (by omega), List.take_length, List.drop_length] at Hv190
    have hb9 : List.length (hl ++ fl) ≤ 65536 := by simp; omega
    refine from_end (by kernel_rfl) ?_
    refine then_normal ?_
    refine wp_seq ?_
    refine region_from ?_  -- region 24
    refine d_pures [(0, .int .i64 ((r : Nat) : Int)), (1, .slice a_l (List.length l) c_l), (5, .bool true), (6, .pointer (some ⟨bp, 0, none⟩)), (8, .string (bstr wl)), (9, .string (bstr rl)), (10, .int .i64 ((k : Nat) : Int)), (116, .pointer (some ⟨bp, 0, none⟩))] [.pointer (some ⟨bp, 0, none⟩)] 1 En189 (by kernel_rfl) (by kernel_rfl) rfl ?_
    intro ac192 En193
    refine from_op (by kernel_rfl) ?_
    have hM194 : Heap wo188 [.box bp [.int .i64 ((r : Nat) : Int), .slice afz 0 cfz, .slice ahz (List.length (hl ++ fl)) chz, .bool true, .bool false] 62, .vec afz cfz 1 (bys []) 5, .vec ahz chz 1 (bys (hl ++ fl)) 5] := Hv190.heap.pick [0, 1, 2] (by kernel_rfl) (by decide)
    refine op_call (d := some 117) (f := 19) (args := #[.pointer (some ⟨bp, 0, none⟩), .int .i64 65536]) En193 (by kernel_rfl) ((read_all bp r (hl ++ fl) _ _ _ _ _ hb9 _ (by exact Int.ofNat_le.2 hb9) hM194).mono ?_)
    rintro _ wo196 ⟨afy1, cfy1, ahy1, chy1, aoy1, coy1, qy1, rfl, he199, hqy1⟩
    refine ⟨_, rfl, ?_⟩
    intro ac195 En197
    have Hv198 : Ev w [] wo196 [.box bp [.int .i64 ((r : Nat) : Int), .slice afy1 0 cfy1, .slice ahy1 0 chy1, .bool true, .bool false] 62, .vec afy1 cfy1 1 (bys []) 5, .vec ahy1 chy1 1 (bys []) 5, .vec aoy1 coy1 1 (bys (hl ++ fl)) 5] := Hv190.trans (Ev.call (R := []) Hv190.heap [0, 1, 2] (by kernel_rfl) (by decide) he199)
    clear hM194 he199
    refine d_pures [(0, .int .i64 ((r : Nat) : Int)), (1, .slice a_l (List.length l) c_l), (5, .bool true), (6, .pointer (some ⟨bp, 0, none⟩)), (8, .string (bstr wl)), (9, .string (bstr rl)), (10, .int .i64 ((k : Nat) : Int)), (14, .slice aoy1 (List.length (hl ++ fl)) coy1)] [.tuple #[.slice aoy1 (List.length (hl ++ fl)) coy1, .int .i64 qy1], .slice aoy1 (List.length (hl ++ fl)) coy1, .int .i64 qy1, .slice aoy1 (List.length (hl ++ fl)) coy1, .int .i64 qy1] 7 En197 (by kernel_rfl) (by kernel_rfl) rfl ?_
    intro ac200 En201
    refine from_end (by kernel_rfl) ?_
    refine then_normal ?_
    refine wp_seq ?_
    refine region_from ?_  -- region 25
    refine d_pures [(0, .int .i64 ((r : Nat) : Int)), (1, .slice a_l (List.length l) c_l), (5, .bool true), (6, .pointer (some ⟨bp, 0, none⟩)), (8, .string (bstr wl)), (9, .string (bstr rl)), (10, .int .i64 ((k : Nat) : Int)), (14, .slice aoy1 (List.length (hl ++ fl)) coy1), (121, .pointer (some ⟨bp, 0, none⟩))] [.pointer (some ⟨bp, 0, none⟩)] 1 En201 (by kernel_rfl) (by kernel_rfl) rfl ?_
    intro ac202 En203
    refine from_op (by kernel_rfl) ?_
    have hM204 : Heap wo196 [.box bp [.int .i64 ((r : Nat) : Int), .slice afy1 0 cfy1, .slice ahy1 0 chy1, .bool true, .bool false] 62, .vec afy1 cfy1 1 (bys []) 5, .vec ahy1 chy1 1 (bys []) 5] := Hv198.heap.pick [0, 1, 2] (by kernel_rfl) (by decide)
    refine op_call (d := some 122) (f := 19) (args := #[.pointer (some ⟨bp, 0, none⟩), .int .i64 1]) En203 (by kernel_rfl) ((read_all bp r ([] : List UInt8) _ _ _ _ _ (by simp) _ (by simp) hM204).mono ?_)
    rintro _ wo206 ⟨afy2, cfy2, ahy2, chy2, aoy2, coy2, qy2, rfl, he209, hqy2⟩
    refine ⟨_, rfl, ?_⟩
    intro ac205 En207
    have Hv208 : Ev w [] wo206 [.box bp [.int .i64 ((r : Nat) : Int), .slice afy2 0 cfy2, .slice ahy2 0 chy2, .bool true, .bool false] 62, .vec afy2 cfy2 1 (bys []) 5, .vec ahy2 chy2 1 (bys []) 5, .vec aoy2 coy2 1 (bys ([] : List UInt8)) 5, .vec aoy1 coy1 1 (bys (hl ++ fl)) 5] := Hv198.trans (Ev.call (R := [.vec aoy1 coy1 1 (bys (hl ++ fl)) 5]) Hv198.heap [0, 1, 2, 3] (by kernel_rfl) (by decide) he209)
    clear hM204 he209
    have hq2 : qy2 = 2 := hqy2 rfl
    rw [hq2] at En207
    refine d_pures [(0, .int .i64 ((r : Nat) : Int)), (1, .slice a_l (List.length l) c_l), (5, .bool true), (6, .pointer (some ⟨bp, 0, none⟩)), (8, .string (bstr wl)), (9, .string (bstr rl)), (10, .int .i64 ((k : Nat) : Int)), (14, .slice aoy1 (List.length (hl ++ fl)) coy1), (17, .int .i64 2)] [.tuple #[.slice aoy2 (List.length ([] : List UInt8)) coy2, .int .i64 2], .slice aoy2 (List.length ([] : List UInt8)) coy2, .int .i64 2, .slice aoy2 (List.length ([] : List UInt8)) coy2, .int .i64 2] 7 En207 (by kernel_rfl) (by kernel_rfl) rfl ?_
    intro ac210 En211
    refine from_end (by kernel_rfl) ?_
    refine then_normal ?_
    refine wp_seq ?_
    refine region_from ?_  -- region 26
    refine d_pures [(0, .int .i64 ((r : Nat) : Int)), (1, .slice a_l (List.length l) c_l), (5, .bool true), (6, .pointer (some ⟨bp, 0, none⟩)), (8, .string (bstr wl)), (9, .string (bstr rl)), (10, .int .i64 ((k : Nat) : Int)), (17, .int .i64 2), (125, .string (bstr rl)), (126, .slice aoy1 (List.length (hl ++ fl)) coy1)] [.string (bstr rl), .slice aoy1 (List.length (hl ++ fl)) coy1] 2 En211 (by kernel_rfl) (by kernel_rfl) rfl ?_
    intro ac212 En213
    refine from_op (by kernel_rfl) ?_
    refine op_str (d := some 127) (src := 22) (dst := 9) (e := 5) (ao := aoy1) (cap := coy1) (p := List.length (hl ++ fl)) (bs := hl ++ fl) En213 (by kernel_rfl) rfl (by kernel_rfl) (by kernel_rfl) (by kernel_rfl) (Hv208.heap.reads (k := 4) rfl) (bys_vnz Hv208.heap (k := 4) rfl) ?_
    intro ac214 En215
    refine from_op (by kernel_rfl) ?_
    refine op_val (d := some 128) (x := Op.stringOp .add (bstr rl) (bstr (hl ++ fl))) (v := .string (bstr (rl ++ (hl ++ fl)))) En215 (by kernel_rfl) (Go.Dbr.run_add_str rl (hl ++ fl) (by simp; omega) _) ?_
    intro ac216 En217
    refine d_pures [(0, .int .i64 ((r : Nat) : Int)), (1, .slice a_l (List.length l) c_l), (5, .bool true), (6, .pointer (some ⟨bp, 0, none⟩)), (8, .string (bstr wl)), (9, .string (bstr rl)), (10, .int .i64 ((k : Nat) : Int)), (17, .int .i64 2), (130, .bool (ByteArray.toList (bstr (rl ++ (hl ++ fl))) == ByteArray.toList (bstr wl)))] [.string (bstr wl), .bool (ByteArray.toList (bstr (rl ++ (hl ++ fl))) == ByteArray.toList (bstr wl))] 6 En217 (by kernel_rfl) (by kernel_rfl) rfl ?_
    intro ac218 En219
    rw [Go.Dbr.bstr_eq (rl ++ (hl ++ fl)) wl, show ((rl ++ (hl ++ fl)) == wl) = true from (by rw [beq_iff_eq]; exact hw1)] at En219
    refine d_pures [(0, .int .i64 ((r : Nat) : Int)), (1, .slice a_l (List.length l) c_l), (4, .bool true), (5, .bool true), (6, .pointer (some ⟨bp, 0, none⟩)), (8, .string (bstr wl)), (9, .string (bstr rl)), (10, .int .i64 ((k : Nat) : Int))] [.bool true, .int .i64 2, .bool true, .bool true, .bool true] 11 En219 (by kernel_rfl) (by kernel_rfl) rfl ?_
    intro ac220 En221
    refine from_end (by kernel_rfl) ?_
    refine then_normal ?_
    refine wp_ret ?_
    refine d_ret1 (t := 4) (v := .bool true) En221 (by kernel_rfl) (by kernel_rfl) ?_
    exact ⟨rfl, Hv208.pick [] (by kernel_rfl) (by decide)⟩

theorem order_walk (room : Int) (a_l : Option Addr) (c_l : Nat) (l : List ((Int) × (Int) × (Int) × (Sl UInt8) × Unit)) (w : World) (b_room : -9223372036854775808 ≤ room ∧ room ≤ 9223372036854775807) (i_l : InS (fun p : (Int) × (Int) × (Int) × (Sl UInt8) × Unit => (fun n : Int => [.int .i64 n]) p.1 ++ (fun p : (Int) × (Int) × (Sl UInt8) × Unit => (fun n : Int => [.int .i64 n]) p.1 ++ (fun p : (Int) × (Sl UInt8) × Unit => (fun n : Int => [.int .i64 n]) p.1 ++ (fun p : (Sl UInt8) × Unit => (fun s : Sl UInt8 => s.f) p.1 ++ (fun _ : Unit => []) p.2) p.2) p.2) p.2) 48 (fun x : (Int) × (Int) × (Int) × (Sl UInt8) × Unit => ((-9223372036854775808 ≤ x.1 ∧ x.1 ≤ 9223372036854775807) ∧ ((-9223372036854775808 ≤ x.2.1 ∧ x.2.1 ≤ 9223372036854775807) ∧ ((-9223372036854775808 ≤ x.2.2.1 ∧ x.2.2.1 ≤ 9223372036854775807) ∧ (InB w [] x.2.2.2.1.a x.2.2.2.1.c x.2.2.2.1.l ∧ (True)))))) w [] a_l c_l l) : Calls Try.prog 6 #[.int .i64 room, .slice a_l (List.length l) c_l] w fun e w' => e = .returned (.bool true) ∧ Ev w [] w' [] := by
  have _ := b_room
  by_cases h : room < 1 ∨ 65536 < room
  · exact order_bad room a_l c_l l w h
  · obtain ⟨r, rfl⟩ : ∃ r : Nat, room = (r : Int) := ⟨room.toNat, by omega⟩
    exact order_good r a_l c_l l w (by omega) (by omega) i_l

end Go.Proofs.Ytjocdckmgdonjaa
