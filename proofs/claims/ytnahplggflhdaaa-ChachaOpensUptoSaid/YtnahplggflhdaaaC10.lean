/- ChachaOpens: its walk. -/
import Derived.Test.YtnahplggflhdaaaP12
import Derived.Test.YtnahplggflhdaaaP13
namespace Go.Proofs.Ytnahplggflhdaaa
open Go.Dbr
set_option maxRecDepth 100000
set_option maxHeartbeats 2000000
set_option linter.unusedVariables false
set_option linter.unusedSimpArgs false

def edF (l : List UInt8) (at1 : UInt16) (x : UInt8) : List UInt8 := if 0 < l.length then List.set l (at1.toNat % l.length) (List.getD l (at1.toNat % l.length) 0 ^^^ x) else l
theorem edF_len (l : List UInt8) (at1 : UInt16) (x : UInt8) : (edF l at1 x).length = l.length := by unfold edF; split <;> simp

theorem opens_walk (k : List UInt8) (n : List UInt8) (a_a : Option Addr) (c_a : Nat) (a : List UInt8) (a_s : Option Addr) (c_s : Nat) (s : List UInt8) (m : UInt16) (y : UInt8) (w : World) (n_k : (List.length k = 32)) (n_n : (List.length n = 12)) (i_a : InB w [] a_a c_a a) (i_s : InB w [] a_s c_s s) (hB : (List.length a) + (List.length s) ≤ 1048576) : Calls Try.prog 7 #[.agg (List.toArray (bys k)), .agg (List.toArray (bys n)), .slice a_a (List.length a) c_a, .slice a_s (List.length s) c_s, uv16 m, bv y] w fun e w' => e = .returned (.bool true) ∧ Ev w [] w' [] := by
 have hs := i_s.small
 have hcb := i_s.cap
 have hsa := i_a.small
 have hca := i_a.cap
 refine d_start [(0, .agg (List.toArray (bys k))), (1, .agg (List.toArray (bys n))), (2, .slice a_a (List.length a) c_a), (3, .slice a_s (List.length s) c_s), (4, uv16 m), (5, bv y)] 85 Go.Proofs.Try.func7 Go.Proofs.Try.ntmps7 rfl (by kernel_rfl) (by kernel_rfl) ?_
 intro act0 En0
 have Hv0 : Ev w [] w [] := Ev.refl (Heap.nil _)
 refine wp_seq ?_
 refine region_from ?_
 refine from_op (by kernel_rfl) ?_
 refine op_newbox (d := some 6) (T := 22) (v := .agg (List.toArray (bys k))) (cs := bys k) En0 (by kernel_rfl) rfl Hv0 ?_
 intro ac2 wo3 bk1 En4 Hv5
 refine from_op (by kernel_rfl) ?_
 refine op_newbox (d := some 7) (T := 24) (v := .agg (List.toArray (bys n))) (cs := bys n) En4 (by kernel_rfl) rfl Hv5 ?_
 intro ac7 wo8 bk6 En9 Hv10
 refine d_pures [(2, .slice a_a (List.length a) c_a), (3, .slice a_s (List.length s) c_s), (4, uv16 m), (5, bv y), (6, pt bk1), (7, pt bk6), (12, .bool false)] [.bool false] 3 En9 (by kernel_rfl) (by kernel_rfl) rfl ?_
 intro ac11 En12
 refine from_end (by kernel_rfl) ?_
 refine then_normal ?_
 refine wp_seq ?_
 refine region_from ?_
 refine from_op (by kernel_rfl) ?_
 have hM13 : Heap wo8 [] := Hv10.heap.pick [] (by kernel_rfl) (by decide)
 refine op_call (d := some 20) (f := 8) (args := #[]) En12 (by kernel_rfl) ((head_ok _).mono ?_)
 rintro _ wo15 ⟨rfl, he18⟩
 refine ⟨_, rfl, ?_⟩
 intro ac14 En16
 have Hv17 : Ev w [] wo15 [.box bk1 (bys k) 22, .box bk6 (bys n) 24] := Hv10.trans (Ev.call (R := [.box bk1 (bys k) 22, .box bk6 (bys n) 24]) Hv10.heap [0, 1] (by kernel_rfl) (by decide) he18)
 clear hM13 he18
 refine d_pures [(2, .slice a_a (List.length a) c_a), (3, .slice a_s (List.length s) c_s), (4, uv16 m), (5, bv y), (6, pt bk1), (7, pt bk6), (12, .bool false), (13, .bool true)] [.bool true] 2 En16 (by kernel_rfl) (by kernel_rfl) rfl ?_
 intro ac19 En20
 refine from_end (by kernel_rfl) ?_
 refine then_normal ?_
 refine wp_seq ?_
 refine region_from ?_
 refine from_op (by kernel_rfl) ?_
 refine op_lit (d := some 21) (t := 25) (T := 5) (m := 0) (parts := #[]) (xs := bys []) (sz := 1) En20 (by kernel_rfl) (by kernel_rfl) rfl (by decide) Hv17 ?_
 intro ac22 wo23 bk21 En24 Hv25
 refine d_pures [(2, .slice a_a (List.length a) c_a), (4, uv16 m), (5, bv y), (6, pt bk1), (7, pt bk6), (12, .bool false), (13, .bool true), (21, .slice (some ⟨bk21, 0, none⟩) 0 0), (22, .slice a_s (List.length s) c_s)] [.slice a_s (List.length s) c_s] 2 En24 (by kernel_rfl) (by kernel_rfl) rfl ?_
 intro ac26 En27
 refine from_op (by kernel_rfl) ?_
 have hsm28 := i_s.small
 refine op_append (d := some 23) (t := 25) (tx := 25) (ty := 25) (k := 2) (p := 0) (m := List.length s) (x := .slice a_s (List.length s) c_s) (bytes := 1) En27 (by kernel_rfl) Hv25 rfl rfl (Reads.src (size := 1) (tx := 25) (e' := 5) (by kernel_rfl) (i_s.ev Hv25).reads (bys_len _) i_s.nz (bys_one _)) (by kernel_rfl) (z := .int .u8 0) (by kernel_rfl) rfl (by decide) (by omega) (by unfold maxLen; omega) ?_
 intro ac33 wo34 ao29 cp30 En35 Hv36 _ _
 rw [bys_nil_append] at Hv36
 have ehz31 : 0 + (List.length s) = List.length s := (by first | (simp; done) | (simp; omega) | omega)
 rw [ehz31] at En35
 refine d_pures [(2, .slice a_a (List.length a) c_a), (4, uv16 m), (5, bv y), (6, pt bk1), (7, pt bk6), (12, .bool false), (13, .bool true), (14, .slice ao29 (List.length s) cp30)] [.slice ao29 (List.length s) cp30] 4 En35 (by kernel_rfl) (by kernel_rfl) rfl ?_
 intro ac37 En38
 refine from_end (by kernel_rfl) ?_
 refine then_normal ?_
 refine wp_seq ?_
 refine wp_seq ?_
 refine region_from ?_
 refine d_pures [(2, .slice a_a (List.length a) c_a), (4, uv16 m), (5, bv y), (6, pt bk1), (7, pt bk6), (12, .bool false), (13, .bool true), (14, .slice ao29 (List.length s) cp30), (26, .bool (decide (((List.length s : Nat) : Int) > (0 : Int))))] [.slice ao29 (List.length s) cp30, .int .i64 ((List.length s : Nat) : Int), .bool (decide (((List.length s : Nat) : Int) > (0 : Int)))] 3 En38 (by kernel_rfl) (by kernel_rfl) rfl ?_
 intro ac39 En40
 refine from_end (by kernel_rfl) ?_
 refine then_normal ?_
 refine region_cut (F := fun ac wo => ∃ (s2 : List UInt8), Env ac 85 [(2, .slice a_a (List.length a) c_a), (4, uv16 m), (5, bv y), (6, pt bk1), (7, pt bk6), (12, .bool false), (13, .bool true), (14, .slice ao29 (List.length s2) cp30)] ∧ Ev w [] wo [.box bk1 (bys k) 22, .box bk6 (bys n) 24, .vec ao29 cp30 1 (bys s2) 5] ∧ (s2 = edF s m y)) ?_ ?_
 ·
  refine cond_at En40 (t := decide (((List.length s : Nat) : Int) > (0 : Int))) (by kernel_rfl) (fun hc41 => ?_) (fun hc41 => ?_)
  ·
   replace hc41 : ((List.length s : Nat) : Int) > (0 : Int) := of_decide_eq_true hc41
   refine wp_seq ?_
   refine region_from ?_
   refine d_pures [(2, .slice a_a (List.length a) c_a), (4, uv16 m), (5, bv y), (6, pt bk1), (7, pt bk6), (12, .bool false), (13, .bool true), (14, .slice ao29 (List.length s) cp30), (28, .int .i64 (IntKind.wrap .i64 ((UInt16.toNat m : Nat) : Int)))] [uv16 m, .int .i64 (IntKind.wrap .i64 ((UInt16.toNat m : Nat) : Int))] 2 En40 (by kernel_rfl) (by kernel_rfl) rfl ?_
   intro ac42 En43
   rw [Go.Dbr.u16_to_i64 (a := ((UInt16.toNat m : Nat) : Int)) (x := m) rfl] at En43
   refine d_pures [(2, .slice a_a (List.length a) c_a), (4, uv16 m), (5, bv y), (6, pt bk1), (7, pt bk6), (12, .bool false), (13, .bool true), (14, .slice ao29 (List.length s) cp30), (28, .int .i64 ((UInt16.toNat m : Nat) : Int)), (30, .int .i64 ((List.length s : Nat) : Int))] [.slice ao29 (List.length s) cp30, .int .i64 ((List.length s : Nat) : Int)] 4 En43 (by kernel_rfl) (by kernel_rfl) rfl ?_
   intro ac44 En45
   refine from_op (by kernel_rfl) ?_
   refine op_val (d := some 31) (x := Op.intDiv .rem .i64 ((UInt16.toNat m : Nat) : Int) ((List.length s : Nat) : Int)) (v := .int .i64 (((UInt16.toNat m) % (List.length s) : Nat) : Int)) En45 (by kernel_rfl) (Go.Dbr.run_rem_nat (UInt16.toNat m) (List.length s) (by omega) _) ?_
   intro ac46 En47
   refine d_pures [(2, .slice a_a (List.length a) c_a), (4, uv16 m), (5, bv y), (6, pt bk1), (7, pt bk6), (12, .bool false), (13, .bool true), (14, .slice ao29 (List.length s) cp30), (15, .int .i64 (((UInt16.toNat m) % (List.length s) : Nat) : Int))] [.int .i64 (((UInt16.toNat m) % (List.length s) : Nat) : Int)] 6 En47 (by kernel_rfl) (by kernel_rfl) rfl ?_
   intro ac48 En49
   refine from_end (by kernel_rfl) ?_
   have hml : UInt16.toNat m % List.length s < List.length s := Nat.mod_lt _ (by omega)
   refine then_normal ?_
   refine region_from ?_
   have hb52 : (UInt16.toNat m) % (List.length s) < List.length s := (by omega)
   obtain ⟨adr50, had51⟩ := some_of (bys_vnz Hv36.heap (k := 2) rfl) hb52
   refine d_pures [(2, .slice a_a (List.length a) c_a), (4, uv16 m), (5, bv y), (6, pt bk1), (7, pt bk6), (12, .bool false), (13, .bool true), (14, .slice ao29 (List.length s) cp30), (32, .slice ao29 (List.length s) cp30), (33, .int .i64 (((UInt16.toNat m) % (List.length s) : Nat) : Int)), (34, .slice ao29 (List.length s) cp30), (35, .int .i64 (((UInt16.toNat m) % (List.length s) : Nat) : Int))] [.slice ao29 (List.length s) cp30, .int .i64 (((UInt16.toNat m) % (List.length s) : Nat) : Int), .slice ao29 (List.length s) cp30, .int .i64 (((UInt16.toNat m) % (List.length s) : Nat) : Int)] 4 En49 (by kernel_rfl) (by kernel_rfl) rfl ?_
   intro ac53 En54
   refine from_op (by kernel_rfl) ?_
   refine op_val (d := some 36) (x := Instr.indexAt 25 (.slice ao29 (List.length s) cp30) (.int .i64 (((UInt16.toNat m) % (List.length s) : Nat) : Int))) (v := .pointer (some (Addr.add adr50 ((UInt16.toNat m) % (List.length s))))) En54 (by kernel_rfl) (Go.Dbr.run_indexsl (e := 5) (sz := 1) (j := (UInt16.toNat m) % (List.length s)) (jo := (UInt16.toNat m) % (List.length s)) had51 (by kernel_rfl) (by kernel_rfl) (by omega) hb52 (Nat.mul_one _) _) ?_
   intro ac55 En56
   refine from_op (by kernel_rfl) ?_
   have hb57 : (UInt16.toNat m) % (List.length s) < List.length s := by omega
   refine op_loadel (d := some 37) (t := 5) (ad := adr50) (ao := ao29) (xs := bys s) (j := (UInt16.toNat m) % (List.length s)) (v := .int .u8 ((UInt8.toNat (List.getD s ((UInt16.toNat m) % (List.length s)) 0) : Nat) : Int)) En56 (by kernel_rfl) (Hv36.heap.reads (k := 2) rfl) had51 (bys_getD hb57) (by kernel_rfl) ?_
   intro ac58 En59
   refine d_pures [(2, .slice a_a (List.length a) c_a), (4, uv16 m), (5, bv y), (6, pt bk1), (7, pt bk6), (12, .bool false), (13, .bool true), (14, .slice ao29 (List.length s) cp30), (32, .slice ao29 (List.length s) cp30), (33, .int .i64 (((UInt16.toNat m) % (List.length s) : Nat) : Int)), (39, .int .u8 (IntKind.wrap .u8 ((BitVec.ofInt (IntKind.bits .u8) ((UInt8.toNat (List.getD s ((UInt16.toNat m) % (List.length s)) 0) : Nat) : Int) ^^^ BitVec.ofInt (IntKind.bits .u8) ((UInt8.toNat y : Nat) : Int)).toNat : Int)))] [bv y, .int .u8 (IntKind.wrap .u8 ((BitVec.ofInt (IntKind.bits .u8) ((UInt8.toNat (List.getD s ((UInt16.toNat m) % (List.length s)) 0) : Nat) : Int) ^^^ BitVec.ofInt (IntKind.bits .u8) ((UInt8.toNat y : Nat) : Int)).toNat : Int))] 8 En59 (by kernel_rfl) (by kernel_rfl) rfl ?_
   intro ac60 En61
   rw [Go.Dbr.u8_xor (a := ((UInt8.toNat (List.getD s ((UInt16.toNat m) % (List.length s)) 0) : Nat) : Int)) (b := ((UInt8.toNat y : Nat) : Int)) (x := List.getD s ((UInt16.toNat m) % (List.length s)) 0) (y := y) rfl rfl] at En61
   have hb64 : (UInt16.toNat m) % (List.length s) < List.length s := (by omega)
   obtain ⟨adr62, had63⟩ := some_of (bys_vnz Hv36.heap (k := 2) rfl) hb64
   refine from_op (by kernel_rfl) ?_
   refine op_val (d := some 40) (x := Instr.indexAt 25 (.slice ao29 (List.length s) cp30) (.int .i64 (((UInt16.toNat m) % (List.length s) : Nat) : Int))) (v := .pointer (some (Addr.add adr62 ((UInt16.toNat m) % (List.length s))))) En61 (by kernel_rfl) (Go.Dbr.run_indexsl (e := 5) (sz := 1) (j := (UInt16.toNat m) % (List.length s)) (jo := (UInt16.toNat m) % (List.length s)) had63 (by kernel_rfl) (by kernel_rfl) (by omega) hb64 (Nat.mul_one _) _) ?_
   intro ac65 En66
   refine from_op (by kernel_rfl) ?_
   refine op_storeel (d := none) (t := 5) (ad := adr62) (ao := ao29) (k := 2) (cap := cp30) (sz := 1) (j := (UInt16.toNat m) % (List.length s)) (xs := bys s) (v := bv ((List.getD s ((UInt16.toNat m) % (List.length s)) 0) ^^^ y)) En66 (by kernel_rfl) Hv36 rfl had63 (by rw [bys_length]; omega) (by kernel_rfl) rfl ?_
   intro ac67 wo68  En69 Hv70
   rw [bys_set] at Hv70
   refine from_end (by kernel_rfl) ?_
   have hel2 : List.length s = List.length (List.set s ((UInt16.toNat m) % (List.length s)) ((List.getD s ((UInt16.toNat m) % (List.length s)) 0) ^^^ y)) := by simp
   rw [hel2] at En69
   exact ⟨rfl, ⟨(List.set s ((UInt16.toNat m) % (List.length s)) ((List.getD s ((UInt16.toNat m) % (List.length s)) 0) ^^^ y)), En69.sub (by kernel_rfl), Hv70.pick [0, 1, 2] (by kernel_rfl) (by decide), by unfold edF; rw [if_pos (by omega)]⟩⟩
  ·
   replace hc41 : ¬ (((List.length s : Nat) : Int) > (0 : Int)) := of_decide_eq_false hc41
   refine wp_skip ?_
   exact ⟨rfl, ⟨s, En40.sub (by kernel_rfl), Hv36.pick [0, 1, 2] (by kernel_rfl) (by decide), by unfold edF; rw [if_neg (by omega)]⟩⟩
 ·
  rintro ac71 wo72 ⟨s2, En73, Hv74, hs2⟩
  refine then_normal ?_
  refine wp_seq ?_
  have hl2 : List.length s2 = List.length s := by rw [hs2, edF_len]
  by_cases h16 : 16 ≤ List.length s2
  ·
   by_cases hok : tagF k n a (List.take (List.length s2 - 16) s2) = List.drop (List.length s2 - 16) s2
   ·
    have hag := seal_again hok
    have htl : List.length (List.take (List.length s2 - 16) s2) = List.length s2 - 16 := by rw [List.length_take]; omega
    have hsl := streamF_len k 1 n (List.take (List.length s2 - 16) s2)
    refine region_from ?_
    refine from_op (by kernel_rfl) ?_
    refine op_loadaggbox (d := some 42) (t := 22) (b := bk1) (off := 0) (k := 0) (m := 32) (xs := bys k) En73 (by kernel_rfl) Hv74 rfl (load_whole (bys_lenh n_k)) (bys_lenh n_k) (by kernel_rfl) (by kernel_rfl) ?_
    intro ac75 En76
    refine from_op (by kernel_rfl) ?_
    refine op_loadaggbox (d := some 43) (t := 24) (b := bk6) (off := 0) (k := 1) (m := 12) (xs := bys n) En76 (by kernel_rfl) Hv74 rfl (load_whole (bys_lenh n_n)) (bys_lenh n_n) (by kernel_rfl) (by kernel_rfl) ?_
    intro ac77 En78
    refine d_pures [(2, .slice a_a (List.length a) c_a), (4, uv16 m), (5, bv y), (6, pt bk1), (7, pt bk6), (12, .bool false), (13, .bool true), (14, .slice ao29 (List.length s2) cp30), (42, .agg (List.toArray (bys k))), (43, .agg (List.toArray (bys n))), (44, .slice a_a (List.length a) c_a), (45, .slice ao29 (List.length s2) cp30)] [.slice a_a (List.length a) c_a, .slice ao29 (List.length s2) cp30] 4 En78 (by kernel_rfl) (by kernel_rfl) rfl ?_
    intro ac79 En80
    refine from_op (by kernel_rfl) ?_
    have hM82 : Heap wo72 [] := Hv74.heap.pick [] (by kernel_rfl) (by decide)
    refine op_call (d := some 46) (f := 16) (args := #[.agg (List.toArray (bys k)), .agg (List.toArray (bys n)), .slice a_a (List.length a) c_a, .slice ao29 (List.length s2) cp30]) En80 (by kernel_rfl) ((open_ok_go _ k n_k n n_n a_a (List.length a) c_a a (by first | rfl | (simp; done) | (simp; omega) | omega) ((i_a.ev Hv74).pick [] (by kernel_rfl)) ao29 (List.length s2) cp30 s2 (by first | rfl | (simp; done) | (simp; omega) | omega) (bys_in Hv74.heap (k := 2) rfl [] (by kernel_rfl) rfl (by first | omega | (simp; done) | (simp; omega))) (by first | omega | (simp; omega)) (by omega) hok).mono ?_)
    rintro _ wo84 ⟨aoq81, coq81, rfl, he87⟩
    refine ⟨_, rfl, ?_⟩
    intro ac83 En85
    have Hv86 : Ev w [] wo84 [.vec aoq81 coq81 1 (bys (streamF k 1 n (List.take (List.length s2 - 16) s2))) 5, .box bk1 (bys k) 22, .box bk6 (bys n) 24, .vec ao29 cp30 1 (bys s2) 5] := Hv74.trans (Ev.call (R := [.box bk1 (bys k) 22, .box bk6 (bys n) 24, .vec ao29 cp30 1 (bys s2) 5]) Hv74.heap [0, 1, 2] (by kernel_rfl) (by decide) he87)
    clear hM82 he87
    refine d_pures [(2, .slice a_a (List.length a) c_a), (4, uv16 m), (5, bv y), (6, pt bk1), (7, pt bk6), (12, .bool false), (13, .bool true), (14, .slice ao29 (List.length s2) cp30), (16, .slice aoq81 (List.length (streamF k 1 n (List.take (List.length s2 - 16) s2))) coq81), (17, .int .i64 0)] [.tuple #[.slice aoq81 (List.length (streamF k 1 n (List.take (List.length s2 - 16) s2))) coq81, .int .i64 0], .slice aoq81 (List.length (streamF k 1 n (List.take (List.length s2 - 16) s2))) coq81, .int .i64 0, .slice aoq81 (List.length (streamF k 1 n (List.take (List.length s2 - 16) s2))) coq81, .int .i64 0] 10 En85 (by kernel_rfl) (by kernel_rfl) rfl ?_
    intro ac88 En89
    refine from_end (by kernel_rfl) ?_
    refine then_normal ?_
    refine wp_seq ?_
    refine region_from ?_
    refine from_op (by kernel_rfl) ?_
    refine op_loadaggbox (d := some 50) (t := 22) (b := bk1) (off := 0) (k := 1) (m := 32) (xs := bys k) En89 (by kernel_rfl) Hv86 rfl (load_whole (bys_lenh n_k)) (bys_lenh n_k) (by kernel_rfl) (by kernel_rfl) ?_
    intro ac90 En91
    refine from_op (by kernel_rfl) ?_
    refine op_loadaggbox (d := some 51) (t := 24) (b := bk6) (off := 0) (k := 2) (m := 12) (xs := bys n) En91 (by kernel_rfl) Hv86 rfl (load_whole (bys_lenh n_n)) (bys_lenh n_n) (by kernel_rfl) (by kernel_rfl) ?_
    intro ac92 En93
    refine d_pures [(2, .slice a_a (List.length a) c_a), (4, uv16 m), (5, bv y), (6, pt bk1), (7, pt bk6), (12, .bool false), (13, .bool true), (14, .slice ao29 (List.length s2) cp30), (16, .slice aoq81 (List.length (streamF k 1 n (List.take (List.length s2 - 16) s2))) coq81), (17, .int .i64 0), (50, .agg (List.toArray (bys k))), (51, .agg (List.toArray (bys n))), (52, .slice a_a (List.length a) c_a), (53, .slice ao29 (List.length s2) cp30)] [.slice a_a (List.length a) c_a, .slice ao29 (List.length s2) cp30] 4 En93 (by kernel_rfl) (by kernel_rfl) rfl ?_
    intro ac94 En95
    refine from_op (by kernel_rfl) ?_
    have hM97 : Heap wo84 [] := Hv86.heap.pick [] (by kernel_rfl) (by decide)
    refine op_call (d := some 54) (f := 18) (args := #[.agg (List.toArray (bys k)), .agg (List.toArray (bys n)), .slice a_a (List.length a) c_a, .slice ao29 (List.length s2) cp30]) En95 (by kernel_rfl) ((open_ok_ref _ k n_k n n_n a_a (List.length a) c_a a (by first | rfl | (simp; done) | (simp; omega) | omega) ((i_a.ev Hv86).pick [] (by kernel_rfl)) ao29 (List.length s2) cp30 s2 (by first | rfl | (simp; done) | (simp; omega) | omega) (bys_in Hv86.heap (k := 3) rfl [] (by kernel_rfl) rfl (by first | omega | (simp; done) | (simp; omega))) (by first | omega | (simp; omega)) (by omega) hok).mono ?_)
    rintro _ wo99 ⟨aoq96, coq96, rfl, he102⟩
    refine ⟨_, rfl, ?_⟩
    intro ac98 En100
    have Hv101 : Ev w [] wo99 [.vec aoq96 coq96 1 (bys (streamF k 1 n (List.take (List.length s2 - 16) s2))) 5, .vec aoq81 coq81 1 (bys (streamF k 1 n (List.take (List.length s2 - 16) s2))) 5, .box bk1 (bys k) 22, .box bk6 (bys n) 24, .vec ao29 cp30 1 (bys s2) 5] := Hv86.trans (Ev.call (R := [.vec aoq81 coq81 1 (bys (streamF k 1 n (List.take (List.length s2 - 16) s2))) 5, .box bk1 (bys k) 22, .box bk6 (bys n) 24, .vec ao29 cp30 1 (bys s2) 5]) Hv86.heap [0, 1, 2, 3] (by kernel_rfl) (by decide) he102)
    clear hM97 he102
    refine d_pures [(2, .slice a_a (List.length a) c_a), (4, uv16 m), (5, bv y), (6, pt bk1), (7, pt bk6), (12, .bool false), (13, .bool true), (14, .slice ao29 (List.length s2) cp30), (16, .slice aoq81 (List.length (streamF k 1 n (List.take (List.length s2 - 16) s2))) coq81), (17, .int .i64 0), (18, .slice aoq96 (List.length (streamF k 1 n (List.take (List.length s2 - 16) s2))) coq96), (19, .int .i64 0)] [.tuple #[.slice aoq96 (List.length (streamF k 1 n (List.take (List.length s2 - 16) s2))) coq96, .int .i64 0], .slice aoq96 (List.length (streamF k 1 n (List.take (List.length s2 - 16) s2))) coq96, .int .i64 0, .slice aoq96 (List.length (streamF k 1 n (List.take (List.length s2 - 16) s2))) coq96, .int .i64 0] 10 En100 (by kernel_rfl) (by kernel_rfl) rfl ?_
    intro ac103 En104
    refine from_end (by kernel_rfl) ?_
    refine then_normal ?_
    refine wp_seq ?_
    refine wp_seq ?_
    refine region_from ?_
    refine d_pures [(2, .slice a_a (List.length a) c_a), (4, uv16 m), (5, bv y), (6, pt bk1), (7, pt bk6), (12, .bool false), (14, .slice ao29 (List.length s2) cp30), (16, .slice aoq81 (List.length (streamF k 1 n (List.take (List.length s2 - 16) s2))) coq81), (17, .int .i64 0), (18, .slice aoq96 (List.length (streamF k 1 n (List.take (List.length s2 - 16) s2))) coq96), (64, .bool false), (65, .slice aoq81 (List.length (streamF k 1 n (List.take (List.length s2 - 16) s2))) coq81)] [.bool true, .bool false, .bool false, .int .i64 0, .int .i64 0, .bool false, .bool false, .bool false, .slice aoq81 (List.length (streamF k 1 n (List.take (List.length s2 - 16) s2))) coq81] 9 En104 (by kernel_rfl) (by kernel_rfl) rfl ?_
    intro ac105 En106
    refine from_op (by kernel_rfl) ?_
    refine op_str (d := some 66) (src := 25) (dst := 9) (e := 5) (ao := aoq81) (cap := coq81) (p := List.length (streamF k 1 n (List.take (List.length s2 - 16) s2))) (bs := streamF k 1 n (List.take (List.length s2 - 16) s2)) En106 (by kernel_rfl) rfl (by kernel_rfl) (by kernel_rfl) (by kernel_rfl) (Hv101.heap.reads (k := 1) rfl) (bys_vnz Hv101.heap (k := 1) rfl) ?_
    intro ac107 En108
    refine d_pures [(2, .slice a_a (List.length a) c_a), (4, uv16 m), (5, bv y), (6, pt bk1), (7, pt bk6), (12, .bool false), (14, .slice ao29 (List.length s2) cp30), (16, .slice aoq81 (List.length (streamF k 1 n (List.take (List.length s2 - 16) s2))) coq81), (17, .int .i64 0), (64, .bool false), (66, .string (bstr (streamF k 1 n (List.take (List.length s2 - 16) s2)))), (67, .slice aoq96 (List.length (streamF k 1 n (List.take (List.length s2 - 16) s2))) coq96)] [.slice aoq96 (List.length (streamF k 1 n (List.take (List.length s2 - 16) s2))) coq96] 11 En108 (by kernel_rfl) (by kernel_rfl) rfl ?_
    intro ac109 En110
    refine from_op (by kernel_rfl) ?_
    refine op_str (d := some 68) (src := 25) (dst := 9) (e := 5) (ao := aoq96) (cap := coq96) (p := List.length (streamF k 1 n (List.take (List.length s2 - 16) s2))) (bs := streamF k 1 n (List.take (List.length s2 - 16) s2)) En110 (by kernel_rfl) rfl (by kernel_rfl) (by kernel_rfl) (by kernel_rfl) (Hv101.heap.reads (k := 0) rfl) (bys_vnz Hv101.heap (k := 0) rfl) ?_
    intro ac111 En112
    refine d_pures [(2, .slice a_a (List.length a) c_a), (4, uv16 m), (5, bv y), (6, pt bk1), (7, pt bk6), (12, .bool false), (14, .slice ao29 (List.length s2) cp30), (16, .slice aoq81 (List.length (streamF k 1 n (List.take (List.length s2 - 16) s2))) coq81), (17, .int .i64 0), (64, .bool false), (69, .bool (!(ByteArray.toList (bstr (streamF k 1 n (List.take (List.length s2 - 16) s2))) == ByteArray.toList (bstr (streamF k 1 n (List.take (List.length s2 - 16) s2))))))] [.bool (!(ByteArray.toList (bstr (streamF k 1 n (List.take (List.length s2 - 16) s2))) == ByteArray.toList (bstr (streamF k 1 n (List.take (List.length s2 - 16) s2)))))] 13 En112 (by kernel_rfl) (by kernel_rfl) rfl ?_
    intro ac113 En114
    rw [Go.Dbr.bstr_eq (streamF k 1 n (List.take (List.length s2 - 16) s2)) (streamF k 1 n (List.take (List.length s2 - 16) s2)), show (!((streamF k 1 n (List.take (List.length s2 - 16) s2)) == (streamF k 1 n (List.take (List.length s2 - 16) s2)))) = false from (by simp)] at En114
    refine d_pures [(2, .slice a_a (List.length a) c_a), (4, uv16 m), (5, bv y), (6, pt bk1), (7, pt bk6), (12, .bool false), (14, .slice ao29 (List.length s2) cp30), (16, .slice aoq81 (List.length (streamF k 1 n (List.take (List.length s2 - 16) s2))) coq81), (17, .int .i64 0), (70, .bool false)] [.bool false] 14 En114 (by kernel_rfl) (by kernel_rfl) rfl ?_
    intro ac115 En116
    refine from_end (by kernel_rfl) ?_
    refine then_normal ?_
    refine cond_false En116 (t := false) (by kernel_rfl) rfl ?_
    refine wp_skip ?_
    refine then_normal ?_
    refine wp_seq ?_
    refine wp_seq ?_
    refine region_from ?_
    refine d_pures [(2, .slice a_a (List.length a) c_a), (4, uv16 m), (5, bv y), (6, pt bk1), (7, pt bk6), (12, .bool false), (14, .slice ao29 (List.length s2) cp30), (16, .slice aoq81 (List.length (streamF k 1 n (List.take (List.length s2 - 16) s2))) coq81), (17, .int .i64 0), (72, .bool false)] [.int .i64 0, .bool false] 2 En116 (by kernel_rfl) (by kernel_rfl) rfl ?_
    intro ac117 En118
    refine from_end (by kernel_rfl) ?_
    refine then_normal ?_
    refine cond_false En118 (t := false) (by kernel_rfl) rfl ?_
    refine wp_skip ?_
    refine then_normal ?_
    refine wp_seq ?_
    refine region_cut (F := fun ac wo => Env ac 85 [(2, .slice a_a (List.length a) c_a), (4, uv16 m), (5, bv y), (6, pt bk1), (7, pt bk6), (12, .bool true), (14, .slice ao29 (List.length s2) cp30), (16, .slice aoq81 (List.length (streamF k 1 n (List.take (List.length s2 - 16) s2))) coq81), (17, .int .i64 0)] ∧ Ev w [] wo [.vec aoq81 coq81 1 (bys (streamF k 1 n (List.take (List.length s2 - 16) s2))) 5, .box bk1 (bys k) 22, .box bk6 (bys n) 24, .vec ao29 cp30 1 (bys s2) 5]) ?_ ?_
    ·
     refine h_start (fun wv => Ev w [] wv [.box bk1 (bys k) 22, .box bk6 (bys n) 24, .vec ao29 cp30 1 (bys s2) 5]) [] (by kernel_rfl) 10 (by kernel_rfl) ?_
     have wo119 := Hv101.trans (Ev.drew Hv101.heap)
     refine h_read (d := some 76) (s := nv (Instr.loadAt 22 (pt bk1))) En118 (v := .agg (List.toArray (bys k))) 0 (by kernel_rfl) (fun w hS => run_nv (run_loadAgg2 (m := 32) (cs := bys k) (bys_lenh n_k) (by kernel_rfl) (by kernel_rfl) (hS.heap.cells (k := 0) (off := 0) (m := 32) rfl (load_whole (bys_lenh n_k))))) (by kernel_rfl) rfl (wo119.pick [2, 3, 4] (by kernel_rfl) (by decide)) ?_
     intro ac237 En238
     refine h_read (d := some 77) (s := nv (Instr.loadAt 24 (pt bk6))) En238 (v := .agg (List.toArray (bys n))) 1 (by kernel_rfl) (fun w hS => run_nv (run_loadAgg2 (m := 12) (cs := bys n) (bys_lenh n_n) (by kernel_rfl) (by kernel_rfl) (hS.heap.cells (k := 1) (off := 0) (m := 12) rfl (load_whole (bys_lenh n_n))))) (by kernel_rfl) rfl (wo119.pick [2, 3, 4] (by kernel_rfl) (by decide)) ?_
     intro ac239 En240
     refine h_pureR (d := some 78) En240 (v := .slice a_a (List.length a) c_a) 2 (by kernel_rfl) (by kernel_rfl) rfl (fun _ => wo119.pick [2, 3, 4] (by kernel_rfl) (by decide)) ?_
     intro ac241 En242
     refine h_pureR (d := some 79) En242 (v := .slice aoq81 (List.length (streamF k 1 n (List.take (List.length s2 - 16) s2))) coq81) 3 (by kernel_rfl) (by kernel_rfl) rfl (fun _ => wo119.pick [2, 3, 4] (by kernel_rfl) (by decide)) ?_
     intro ac243 En244
     refine h_pureR (d := some 82) En244 (v := .slice ao29 (List.length s2) cp30) 6 (by kernel_rfl) (by kernel_rfl) rfl (fun _ => wo119.pick [2, 3, 4] (by kernel_rfl) (by decide)) ?_
     intro ac245 En246
     refine h_read (d := some 83) (s := nv (convert 25 9 (.slice ao29 (List.length s2) cp30))) En246 (v := .string (bstr s2)) 7 (by kernel_rfl) (fun w hS => run_nv (run_str2 (e := 5) (bs := s2) rfl (by kernel_rfl) (by kernel_rfl) (by kernel_rfl) (hS.heap.reads (k := 2) rfl) (bys_vnz hS.heap (k := 2) rfl))) (by kernel_rfl) rfl (wo119.pick [2, 3, 4] (by kernel_rfl) (by decide)) ?_
     intro ac247 En248
     refine h_at 4 (by kernel_rfl) rfl ?_
     have hM250 : Heap wo99.drew [] := wo119.heap.pick [] (by kernel_rfl) (by decide)
     refine op_call (d := some 80) (f := 15) (args := #[.agg (List.toArray (bys k)), .agg (List.toArray (bys n)), .slice a_a (List.length a) c_a, .slice aoq81 (List.length (streamF k 1 n (List.take (List.length s2 - 16) s2))) coq81]) En248 (by kernel_rfl) ((seal_go _ k n_k n n_n a_a (List.length a) c_a a (by first | rfl | (simp; done) | (simp; omega) | omega) ((i_a.ev wo119).pick [] (by kernel_rfl)) aoq81 (List.length (streamF k 1 n (List.take (List.length s2 - 16) s2))) coq81 (streamF k 1 n (List.take (List.length s2 - 16) s2)) (by first | rfl | (simp; done) | (simp; omega) | omega) (bys_in wo119.heap (k := 1) rfl [] (by kernel_rfl) rfl (by first | omega | (simp; done) | (simp; omega))) (by first | omega | (simp; omega))).mono ?_)
     rintro _ wo252 ⟨aoq249, coq249, rfl, he255⟩
     refine ⟨_, rfl, ?_⟩
     intro ac251 En253
     have Hv254 : Ev w [] wo252 [.vec aoq249 coq249 1 (bys (sealF k n a (streamF k 1 n (List.take (List.length s2 - 16) s2)))) 5, .vec aoq96 coq96 1 (bys (streamF k 1 n (List.take (List.length s2 - 16) s2))) 5, .vec aoq81 coq81 1 (bys (streamF k 1 n (List.take (List.length s2 - 16) s2))) 5, .box bk1 (bys k) 22, .box bk6 (bys n) 24, .vec ao29 cp30 1 (bys s2) 5] := wo119.trans (Ev.call (R := [.vec aoq96 coq96 1 (bys (streamF k 1 n (List.take (List.length s2 - 16) s2))) 5, .vec aoq81 coq81 1 (bys (streamF k 1 n (List.take (List.length s2 - 16) s2))) 5, .box bk1 (bys k) 22, .box bk6 (bys n) 24, .vec ao29 cp30 1 (bys s2) 5]) wo119.heap [0, 1, 2, 3, 4] (by kernel_rfl) (by decide) he255)
     clear hM250 he255
     refine ⟨fun _ => Hv254.pick [3, 4, 5] (by kernel_rfl) (by decide), ?_⟩
     refine h_at 5 (by kernel_rfl) rfl ?_
     refine op_str (d := some 81) (src := 25) (dst := 9) (e := 5) (ao := aoq249) (cap := coq249) (p := List.length (sealF k n a (streamF k 1 n (List.take (List.length s2 - 16) s2)))) (bs := sealF k n a (streamF k 1 n (List.take (List.length s2 - 16) s2))) En253 (by kernel_rfl) rfl (by kernel_rfl) (by kernel_rfl) (by kernel_rfl) (Hv254.heap.reads (k := 0) rfl) (bys_vnz Hv254.heap (k := 0) rfl) ?_
     intro ac256 En257
     refine ⟨fun _ => Hv254.pick [3, 4, 5] (by kernel_rfl) (by decide), ?_⟩
     refine h_pureR (d := some 84) En257 (v := .bool (ByteArray.toList (bstr (sealF k n a (streamF k 1 n (List.take (List.length s2 - 16) s2)))) == ByteArray.toList (bstr s2))) 8 (by kernel_rfl) (by kernel_rfl) rfl (fun _ => Hv254.pick [3, 4, 5] (by kernel_rfl) (by decide)) ?_
     intro ac258 En259
     rw [Go.Dbr.bstr_eq (sealF k n a (streamF k 1 n (List.take (List.length s2 - 16) s2))) s2, show ((sealF k n a (streamF k 1 n (List.take (List.length s2 - 16) s2))) == s2) = true from (by rw [hag]; simp)] at En259
     refine h_pureR (d := some 12) En259 (v := .bool true) 9 (by kernel_rfl) (by kernel_rfl) rfl (fun _ => Hv254.pick [3, 4, 5] (by kernel_rfl) (by decide)) ?_
     intro ac260 En261
     exact h_end (by kernel_rfl) ⟨En261.sub (by kernel_rfl), Hv254.pick [2, 3, 4, 5] (by kernel_rfl) (by decide)⟩
    rintro ac262 wo263 ⟨En264, Hv265⟩
    refine then_normal ?_
    refine wp_ret ?_
    refine d_ret1 (t := 12) (v := .bool true) En264 (by kernel_rfl) (by kernel_rfl) ?_
    exact ⟨rfl, Hv265.pick [] (by kernel_rfl) (by decide)⟩
   ·
    refine region_from ?_
    refine from_op (by kernel_rfl) ?_
    refine op_loadaggbox (d := some 42) (t := 22) (b := bk1) (off := 0) (k := 0) (m := 32) (xs := bys k) En73 (by kernel_rfl) Hv74 rfl (load_whole (bys_lenh n_k)) (bys_lenh n_k) (by kernel_rfl) (by kernel_rfl) ?_
    intro ac266 En267
    refine from_op (by kernel_rfl) ?_
    refine op_loadaggbox (d := some 43) (t := 24) (b := bk6) (off := 0) (k := 1) (m := 12) (xs := bys n) En267 (by kernel_rfl) Hv74 rfl (load_whole (bys_lenh n_n)) (bys_lenh n_n) (by kernel_rfl) (by kernel_rfl) ?_
    intro ac268 En269
    refine d_pures [(2, .slice a_a (List.length a) c_a), (4, uv16 m), (5, bv y), (6, pt bk1), (7, pt bk6), (12, .bool false), (13, .bool true), (14, .slice ao29 (List.length s2) cp30), (42, .agg (List.toArray (bys k))), (43, .agg (List.toArray (bys n))), (44, .slice a_a (List.length a) c_a), (45, .slice ao29 (List.length s2) cp30)] [.slice a_a (List.length a) c_a, .slice ao29 (List.length s2) cp30] 4 En269 (by kernel_rfl) (by kernel_rfl) rfl ?_
    intro ac270 En271
    refine from_op (by kernel_rfl) ?_
    have hM273 : Heap wo72 [] := Hv74.heap.pick [] (by kernel_rfl) (by decide)
    refine op_call (d := some 46) (f := 16) (args := #[.agg (List.toArray (bys k)), .agg (List.toArray (bys n)), .slice a_a (List.length a) c_a, .slice ao29 (List.length s2) cp30]) En271 (by kernel_rfl) ((open_bad_go _ k n_k n n_n a_a (List.length a) c_a a (by first | rfl | (simp; done) | (simp; omega) | omega) ((i_a.ev Hv74).pick [] (by kernel_rfl)) ao29 (List.length s2) cp30 s2 (by first | rfl | (simp; done) | (simp; omega) | omega) (bys_in Hv74.heap (k := 2) rfl [] (by kernel_rfl) rfl (by first | omega | (simp; done) | (simp; omega))) (by first | omega | (simp; omega)) (by omega) hok).mono ?_)
    rintro _ wo275 ⟨rfl, he278⟩
    refine ⟨_, rfl, ?_⟩
    intro ac274 En276
    have Hv277 : Ev w [] wo275 [.box bk1 (bys k) 22, .box bk6 (bys n) 24, .vec ao29 cp30 1 (bys s2) 5] := Hv74.trans (Ev.call (R := [.box bk1 (bys k) 22, .box bk6 (bys n) 24, .vec ao29 cp30 1 (bys s2) 5]) Hv74.heap [0, 1, 2] (by kernel_rfl) (by decide) he278)
    clear hM273 he278
    refine d_pures [(2, .slice a_a (List.length a) c_a), (4, uv16 m), (5, bv y), (6, pt bk1), (7, pt bk6), (12, .bool false), (13, .bool true), (14, .slice ao29 (List.length s2) cp30), (16, .slice none 0 0), (17, .int .i64 91)] [.tuple #[.slice none 0 0, .int .i64 91], .slice none 0 0, .int .i64 91, .slice none 0 0, .int .i64 91] 10 En276 (by kernel_rfl) (by kernel_rfl) rfl ?_
    intro ac279 En280
    refine from_end (by kernel_rfl) ?_
    refine then_normal ?_
    refine wp_seq ?_
    refine region_from ?_
    refine from_op (by kernel_rfl) ?_
    refine op_loadaggbox (d := some 50) (t := 22) (b := bk1) (off := 0) (k := 0) (m := 32) (xs := bys k) En280 (by kernel_rfl) Hv277 rfl (load_whole (bys_lenh n_k)) (bys_lenh n_k) (by kernel_rfl) (by kernel_rfl) ?_
    intro ac281 En282
    refine from_op (by kernel_rfl) ?_
    refine op_loadaggbox (d := some 51) (t := 24) (b := bk6) (off := 0) (k := 1) (m := 12) (xs := bys n) En282 (by kernel_rfl) Hv277 rfl (load_whole (bys_lenh n_n)) (bys_lenh n_n) (by kernel_rfl) (by kernel_rfl) ?_
    intro ac283 En284
    refine d_pures [(2, .slice a_a (List.length a) c_a), (4, uv16 m), (5, bv y), (6, pt bk1), (7, pt bk6), (12, .bool false), (13, .bool true), (14, .slice ao29 (List.length s2) cp30), (16, .slice none 0 0), (17, .int .i64 91), (50, .agg (List.toArray (bys k))), (51, .agg (List.toArray (bys n))), (52, .slice a_a (List.length a) c_a), (53, .slice ao29 (List.length s2) cp30)] [.slice a_a (List.length a) c_a, .slice ao29 (List.length s2) cp30] 4 En284 (by kernel_rfl) (by kernel_rfl) rfl ?_
    intro ac285 En286
    refine from_op (by kernel_rfl) ?_
    have hM288 : Heap wo275 [] := Hv277.heap.pick [] (by kernel_rfl) (by decide)
    refine op_call (d := some 54) (f := 18) (args := #[.agg (List.toArray (bys k)), .agg (List.toArray (bys n)), .slice a_a (List.length a) c_a, .slice ao29 (List.length s2) cp30]) En286 (by kernel_rfl) ((open_bad_ref _ k n_k n n_n a_a (List.length a) c_a a (by first | rfl | (simp; done) | (simp; omega) | omega) ((i_a.ev Hv277).pick [] (by kernel_rfl)) ao29 (List.length s2) cp30 s2 (by first | rfl | (simp; done) | (simp; omega) | omega) (bys_in Hv277.heap (k := 2) rfl [] (by kernel_rfl) rfl (by first | omega | (simp; done) | (simp; omega))) (by first | omega | (simp; omega)) (by omega) hok).mono ?_)
    rintro _ wo290 ⟨rfl, he293⟩
    refine ⟨_, rfl, ?_⟩
    intro ac289 En291
    have Hv292 : Ev w [] wo290 [.box bk1 (bys k) 22, .box bk6 (bys n) 24, .vec ao29 cp30 1 (bys s2) 5] := Hv277.trans (Ev.call (R := [.box bk1 (bys k) 22, .box bk6 (bys n) 24, .vec ao29 cp30 1 (bys s2) 5]) Hv277.heap [0, 1, 2] (by kernel_rfl) (by decide) he293)
    clear hM288 he293
    refine d_pures [(2, .slice a_a (List.length a) c_a), (4, uv16 m), (5, bv y), (6, pt bk1), (7, pt bk6), (12, .bool false), (13, .bool true), (14, .slice ao29 (List.length s2) cp30), (16, .slice none 0 0), (17, .int .i64 91), (18, .slice none 0 0), (19, .int .i64 91)] [.tuple #[.slice none 0 0, .int .i64 91], .slice none 0 0, .int .i64 91, .slice none 0 0, .int .i64 91] 10 En291 (by kernel_rfl) (by kernel_rfl) rfl ?_
    intro ac294 En295
    refine from_end (by kernel_rfl) ?_
    refine then_normal ?_
    refine wp_seq ?_
    refine wp_seq ?_
    refine region_from ?_
    refine d_pures [(2, .slice a_a (List.length a) c_a), (4, uv16 m), (5, bv y), (6, pt bk1), (7, pt bk6), (12, .bool false), (14, .slice ao29 (List.length s2) cp30), (16, .slice none 0 0), (17, .int .i64 91), (18, .slice none 0 0), (64, .bool false), (65, .slice none 0 0)] [.bool true, .bool false, .bool false, .int .i64 91, .int .i64 91, .bool false, .bool false, .bool false, .slice none 0 0] 9 En295 (by kernel_rfl) (by kernel_rfl) rfl ?_
    intro ac296 En297
    refine from_op (by kernel_rfl) ?_
    refine op_str (d := some 66) (src := 25) (dst := 9) (e := 5) (ao := none) (cap := 0) (p := 0) (bs := []) En297 (by kernel_rfl) rfl (by kernel_rfl) (by kernel_rfl) (by kernel_rfl) (rfl : bys [] = []) (fun _ => rfl) ?_
    intro ac298 En299
    refine d_pures [(2, .slice a_a (List.length a) c_a), (4, uv16 m), (5, bv y), (6, pt bk1), (7, pt bk6), (12, .bool false), (14, .slice ao29 (List.length s2) cp30), (16, .slice none 0 0), (17, .int .i64 91), (64, .bool false), (66, .string (bstr [])), (67, .slice none 0 0)] [.slice none 0 0] 11 En299 (by kernel_rfl) (by kernel_rfl) rfl ?_
    intro ac300 En301
    refine from_op (by kernel_rfl) ?_
    refine op_str (d := some 68) (src := 25) (dst := 9) (e := 5) (ao := none) (cap := 0) (p := 0) (bs := []) En301 (by kernel_rfl) rfl (by kernel_rfl) (by kernel_rfl) (by kernel_rfl) (rfl : bys [] = []) (fun _ => rfl) ?_
    intro ac302 En303
    refine d_pures [(2, .slice a_a (List.length a) c_a), (4, uv16 m), (5, bv y), (6, pt bk1), (7, pt bk6), (12, .bool false), (14, .slice ao29 (List.length s2) cp30), (16, .slice none 0 0), (17, .int .i64 91), (64, .bool false), (69, .bool (!(ByteArray.toList (bstr []) == ByteArray.toList (bstr []))))] [.bool (!(ByteArray.toList (bstr []) == ByteArray.toList (bstr [])))] 13 En303 (by kernel_rfl) (by kernel_rfl) rfl ?_
    intro ac304 En305
    rw [Go.Dbr.bstr_eq [] [], show (!([] == [])) = false from (by simp)] at En305
    refine d_pures [(2, .slice a_a (List.length a) c_a), (4, uv16 m), (5, bv y), (6, pt bk1), (7, pt bk6), (12, .bool false), (14, .slice ao29 (List.length s2) cp30), (16, .slice none 0 0), (17, .int .i64 91), (70, .bool false)] [.bool false] 14 En305 (by kernel_rfl) (by kernel_rfl) rfl ?_
    intro ac306 En307
    refine from_end (by kernel_rfl) ?_
    refine then_normal ?_
    refine cond_false En307 (t := false) (by kernel_rfl) rfl ?_
    refine wp_skip ?_
    refine then_normal ?_
    refine wp_seq ?_
    refine wp_seq ?_
    refine region_from ?_
    refine d_pures [(2, .slice a_a (List.length a) c_a), (4, uv16 m), (5, bv y), (6, pt bk1), (7, pt bk6), (12, .bool false), (14, .slice ao29 (List.length s2) cp30), (16, .slice none 0 0), (17, .int .i64 91), (72, .bool true)] [.int .i64 91, .bool true] 2 En307 (by kernel_rfl) (by kernel_rfl) rfl ?_
    intro ac308 En309
    refine from_end (by kernel_rfl) ?_
    refine then_normal ?_
    refine cond_true En309 (t := true) (by kernel_rfl) rfl ?_
    refine wp_seq ?_
    refine region_from ?_
    refine d_pures [(2, .slice a_a (List.length a) c_a), (4, uv16 m), (5, bv y), (6, pt bk1), (7, pt bk6), (12, .bool true), (14, .slice ao29 (List.length s2) cp30), (16, .slice none 0 0), (17, .int .i64 91)] [.slice none 0 0, .int .i64 0, .bool true, .bool true] 4 En309 (by kernel_rfl) (by kernel_rfl) rfl ?_
    intro ac310 En311
    refine from_end (by kernel_rfl) ?_
    refine then_normal ?_
    refine wp_ret ?_
    refine then_ret ?_
    refine d_ret1 (t := 12) (v := .bool true) En311 (by kernel_rfl) (by kernel_rfl) ?_
    exact ⟨rfl, Hv292.pick [] (by kernel_rfl) (by decide)⟩
  ·
   refine region_from ?_
   refine from_op (by kernel_rfl) ?_
   refine op_loadaggbox (d := some 42) (t := 22) (b := bk1) (off := 0) (k := 0) (m := 32) (xs := bys k) En73 (by kernel_rfl) Hv74 rfl (load_whole (bys_lenh n_k)) (bys_lenh n_k) (by kernel_rfl) (by kernel_rfl) ?_
   intro ac312 En313
   refine from_op (by kernel_rfl) ?_
   refine op_loadaggbox (d := some 43) (t := 24) (b := bk6) (off := 0) (k := 1) (m := 12) (xs := bys n) En313 (by kernel_rfl) Hv74 rfl (load_whole (bys_lenh n_n)) (bys_lenh n_n) (by kernel_rfl) (by kernel_rfl) ?_
   intro ac314 En315
   refine d_pures [(2, .slice a_a (List.length a) c_a), (4, uv16 m), (5, bv y), (6, pt bk1), (7, pt bk6), (12, .bool false), (13, .bool true), (14, .slice ao29 (List.length s2) cp30), (42, .agg (List.toArray (bys k))), (43, .agg (List.toArray (bys n))), (44, .slice a_a (List.length a) c_a), (45, .slice ao29 (List.length s2) cp30)] [.slice a_a (List.length a) c_a, .slice ao29 (List.length s2) cp30] 4 En315 (by kernel_rfl) (by kernel_rfl) rfl ?_
   intro ac316 En317
   refine from_op (by kernel_rfl) ?_
   have hM319 : Heap wo72 [] := Hv74.heap.pick [] (by kernel_rfl) (by decide)
   refine op_call (d := some 46) (f := 16) (args := #[.agg (List.toArray (bys k)), .agg (List.toArray (bys n)), .slice a_a (List.length a) c_a, .slice ao29 (List.length s2) cp30]) En317 (by kernel_rfl) ((open_short_go _ k n_k n n_n a_a (List.length a) c_a a (by first | rfl | (simp; done) | (simp; omega) | omega) ((i_a.ev Hv74).pick [] (by kernel_rfl)) ao29 (List.length s2) cp30 s2 (by first | rfl | (simp; done) | (simp; omega) | omega) (bys_in Hv74.heap (k := 2) rfl [] (by kernel_rfl) rfl (by first | omega | (simp; done) | (simp; omega))) (by first | omega | (simp; omega)) (by omega)).mono ?_)
   rintro _ wo321 ⟨rfl, he324⟩
   refine ⟨_, rfl, ?_⟩
   intro ac320 En322
   have Hv323 : Ev w [] wo321 [.box bk1 (bys k) 22, .box bk6 (bys n) 24, .vec ao29 cp30 1 (bys s2) 5] := Hv74.trans (Ev.call (R := [.box bk1 (bys k) 22, .box bk6 (bys n) 24, .vec ao29 cp30 1 (bys s2) 5]) Hv74.heap [0, 1, 2] (by kernel_rfl) (by decide) he324)
   clear hM319 he324
   refine d_pures [(2, .slice a_a (List.length a) c_a), (4, uv16 m), (5, bv y), (6, pt bk1), (7, pt bk6), (12, .bool false), (13, .bool true), (14, .slice ao29 (List.length s2) cp30), (16, .slice none 0 0), (17, .int .i64 91)] [.tuple #[.slice none 0 0, .int .i64 91], .slice none 0 0, .int .i64 91, .slice none 0 0, .int .i64 91] 10 En322 (by kernel_rfl) (by kernel_rfl) rfl ?_
   intro ac325 En326
   refine from_end (by kernel_rfl) ?_
   refine then_normal ?_
   refine wp_seq ?_
   refine region_from ?_
   refine from_op (by kernel_rfl) ?_
   refine op_loadaggbox (d := some 50) (t := 22) (b := bk1) (off := 0) (k := 0) (m := 32) (xs := bys k) En326 (by kernel_rfl) Hv323 rfl (load_whole (bys_lenh n_k)) (bys_lenh n_k) (by kernel_rfl) (by kernel_rfl) ?_
   intro ac327 En328
   refine from_op (by kernel_rfl) ?_
   refine op_loadaggbox (d := some 51) (t := 24) (b := bk6) (off := 0) (k := 1) (m := 12) (xs := bys n) En328 (by kernel_rfl) Hv323 rfl (load_whole (bys_lenh n_n)) (bys_lenh n_n) (by kernel_rfl) (by kernel_rfl) ?_
   intro ac329 En330
   refine d_pures [(2, .slice a_a (List.length a) c_a), (4, uv16 m), (5, bv y), (6, pt bk1), (7, pt bk6), (12, .bool false), (13, .bool true), (14, .slice ao29 (List.length s2) cp30), (16, .slice none 0 0), (17, .int .i64 91), (50, .agg (List.toArray (bys k))), (51, .agg (List.toArray (bys n))), (52, .slice a_a (List.length a) c_a), (53, .slice ao29 (List.length s2) cp30)] [.slice a_a (List.length a) c_a, .slice ao29 (List.length s2) cp30] 4 En330 (by kernel_rfl) (by kernel_rfl) rfl ?_
   intro ac331 En332
   refine from_op (by kernel_rfl) ?_
   have hM334 : Heap wo321 [] := Hv323.heap.pick [] (by kernel_rfl) (by decide)
   refine op_call (d := some 54) (f := 18) (args := #[.agg (List.toArray (bys k)), .agg (List.toArray (bys n)), .slice a_a (List.length a) c_a, .slice ao29 (List.length s2) cp30]) En332 (by kernel_rfl) ((open_short_ref _ k n_k n n_n a_a (List.length a) c_a a (by first | rfl | (simp; done) | (simp; omega) | omega) ((i_a.ev Hv323).pick [] (by kernel_rfl)) ao29 (List.length s2) cp30 s2 (by first | rfl | (simp; done) | (simp; omega) | omega) (bys_in Hv323.heap (k := 2) rfl [] (by kernel_rfl) rfl (by first | omega | (simp; done) | (simp; omega))) (by first | omega | (simp; omega)) (by omega)).mono ?_)
   rintro _ wo336 ⟨rfl, he339⟩
   refine ⟨_, rfl, ?_⟩
   intro ac335 En337
   have Hv338 : Ev w [] wo336 [.box bk1 (bys k) 22, .box bk6 (bys n) 24, .vec ao29 cp30 1 (bys s2) 5] := Hv323.trans (Ev.call (R := [.box bk1 (bys k) 22, .box bk6 (bys n) 24, .vec ao29 cp30 1 (bys s2) 5]) Hv323.heap [0, 1, 2] (by kernel_rfl) (by decide) he339)
   clear hM334 he339
   refine d_pures [(2, .slice a_a (List.length a) c_a), (4, uv16 m), (5, bv y), (6, pt bk1), (7, pt bk6), (12, .bool false), (13, .bool true), (14, .slice ao29 (List.length s2) cp30), (16, .slice none 0 0), (17, .int .i64 91), (18, .slice none 0 0), (19, .int .i64 91)] [.tuple #[.slice none 0 0, .int .i64 91], .slice none 0 0, .int .i64 91, .slice none 0 0, .int .i64 91] 10 En337 (by kernel_rfl) (by kernel_rfl) rfl ?_
   intro ac340 En341
   refine from_end (by kernel_rfl) ?_
   refine then_normal ?_
   refine wp_seq ?_
   refine wp_seq ?_
   refine region_from ?_
   refine d_pures [(2, .slice a_a (List.length a) c_a), (4, uv16 m), (5, bv y), (6, pt bk1), (7, pt bk6), (12, .bool false), (14, .slice ao29 (List.length s2) cp30), (16, .slice none 0 0), (17, .int .i64 91), (18, .slice none 0 0), (64, .bool false), (65, .slice none 0 0)] [.bool true, .bool false, .bool false, .int .i64 91, .int .i64 91, .bool false, .bool false, .bool false, .slice none 0 0] 9 En341 (by kernel_rfl) (by kernel_rfl) rfl ?_
   intro ac342 En343
   refine from_op (by kernel_rfl) ?_
   refine op_str (d := some 66) (src := 25) (dst := 9) (e := 5) (ao := none) (cap := 0) (p := 0) (bs := []) En343 (by kernel_rfl) rfl (by kernel_rfl) (by kernel_rfl) (by kernel_rfl) (rfl : bys [] = []) (fun _ => rfl) ?_
   intro ac344 En345
   refine d_pures [(2, .slice a_a (List.length a) c_a), (4, uv16 m), (5, bv y), (6, pt bk1), (7, pt bk6), (12, .bool false), (14, .slice ao29 (List.length s2) cp30), (16, .slice none 0 0), (17, .int .i64 91), (64, .bool false), (66, .string (bstr [])), (67, .slice none 0 0)] [.slice none 0 0] 11 En345 (by kernel_rfl) (by kernel_rfl) rfl ?_
   intro ac346 En347
   refine from_op (by kernel_rfl) ?_
   refine op_str (d := some 68) (src := 25) (dst := 9) (e := 5) (ao := none) (cap := 0) (p := 0) (bs := []) En347 (by kernel_rfl) rfl (by kernel_rfl) (by kernel_rfl) (by kernel_rfl) (rfl : bys [] = []) (fun _ => rfl) ?_
   intro ac348 En349
   refine d_pures [(2, .slice a_a (List.length a) c_a), (4, uv16 m), (5, bv y), (6, pt bk1), (7, pt bk6), (12, .bool false), (14, .slice ao29 (List.length s2) cp30), (16, .slice none 0 0), (17, .int .i64 91), (64, .bool false), (69, .bool (!(ByteArray.toList (bstr []) == ByteArray.toList (bstr []))))] [.bool (!(ByteArray.toList (bstr []) == ByteArray.toList (bstr [])))] 13 En349 (by kernel_rfl) (by kernel_rfl) rfl ?_
   intro ac350 En351
   rw [Go.Dbr.bstr_eq [] [], show (!([] == [])) = false from (by simp)] at En351
   refine d_pures [(2, .slice a_a (List.length a) c_a), (4, uv16 m), (5, bv y), (6, pt bk1), (7, pt bk6), (12, .bool false), (14, .slice ao29 (List.length s2) cp30), (16, .slice none 0 0), (17, .int .i64 91), (70, .bool false)] [.bool false] 14 En351 (by kernel_rfl) (by kernel_rfl) rfl ?_
   intro ac352 En353
   refine from_end (by kernel_rfl) ?_
   refine then_normal ?_
   refine cond_false En353 (t := false) (by kernel_rfl) rfl ?_
   refine wp_skip ?_
   refine then_normal ?_
   refine wp_seq ?_
   refine wp_seq ?_
   refine region_from ?_
   refine d_pures [(2, .slice a_a (List.length a) c_a), (4, uv16 m), (5, bv y), (6, pt bk1), (7, pt bk6), (12, .bool false), (14, .slice ao29 (List.length s2) cp30), (16, .slice none 0 0), (17, .int .i64 91), (72, .bool true)] [.int .i64 91, .bool true] 2 En353 (by kernel_rfl) (by kernel_rfl) rfl ?_
   intro ac354 En355
   refine from_end (by kernel_rfl) ?_
   refine then_normal ?_
   refine cond_true En355 (t := true) (by kernel_rfl) rfl ?_
   refine wp_seq ?_
   refine region_from ?_
   refine d_pures [(2, .slice a_a (List.length a) c_a), (4, uv16 m), (5, bv y), (6, pt bk1), (7, pt bk6), (12, .bool true), (14, .slice ao29 (List.length s2) cp30), (16, .slice none 0 0), (17, .int .i64 91)] [.slice none 0 0, .int .i64 0, .bool true, .bool true] 4 En355 (by kernel_rfl) (by kernel_rfl) rfl ?_
   intro ac356 En357
   refine from_end (by kernel_rfl) ?_
   refine then_normal ?_
   refine wp_ret ?_
   refine then_ret ?_
   refine d_ret1 (t := 12) (v := .bool true) En357 (by kernel_rfl) (by kernel_rfl) ?_
   exact ⟨rfl, Hv338.pick [] (by kernel_rfl) (by decide)⟩

end Go.Proofs.Ytnahplggflhdaaa
