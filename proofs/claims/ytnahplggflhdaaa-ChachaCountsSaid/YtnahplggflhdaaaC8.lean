/- ChachaCounts: its walk. -/
import Derived.Test.YtnahplggflhdaaaC5
import Derived.Test.YtnahplggflhdaaaP7
namespace Go.Proofs.Ytnahplggflhdaaa
open Go.Dbr
set_option maxRecDepth 100000
set_option maxHeartbeats 2000000
set_option linter.unusedVariables false
set_option linter.unusedSimpArgs false

theorem n_to_u32 {a : Int} {n : Nat} (h : a = ((n : Nat) : Int)) : IntKind.wrap .u32 a = ((UInt32.toNat (UInt32.ofNat n) : Nat) : Int) := by
  subst h
  show ((n : Int) % 4294967296) = ((BitVec.ofNat 32 n).toNat : Int)
  rw [BitVec.toNat_ofNat]
  rfl
theorem cut_le (x n : Nat) : 64 * (x % (n / 64 + 1)) ≤ n := by
  have := Nat.mod_lt x (show 0 < n / 64 + 1 by omega)
  omega
theorem stream_cut (k : List UInt8) (c : UInt32) (n b : List UInt8) {q : Nat} (h : 64 * q ≤ b.length) : streamF k c n b = streamF k c n (List.take (64 * q) b) ++ streamF k (c + UInt32.ofNat q) n (List.drop (64 * q) b) := by
  symm
  unfold streamF
  refine eq_range_map 0 (by simp; omega) fun j hj => ?_
  rw [List.getD_eq_getElem?_getD]
  have hl : ((List.range (List.take (64 * q) b).length).map (strF k c n (List.take (64 * q) b))).length = 64 * q := by simp; omega
  by_cases h1 : j < 64 * q
  · rw [List.getElem?_append_left (by omega), ← List.getD_eq_getElem?_getD, getD_range_map (by rw [List.length_take]; omega)]
    unfold strF
    rw [List.getD_eq_getElem?_getD (l := List.take _ _), List.getElem?_take, if_pos h1, ← List.getD_eq_getElem?_getD]
  · rw [List.getElem?_append_right (by omega), hl, ← List.getD_eq_getElem?_getD, getD_range_map (by rw [List.length_drop]; omega)]
    unfold strF ksAt
    rw [List.getD_eq_getElem?_getD (l := List.drop _ _), List.getElem?_drop, ← List.getD_eq_getElem?_getD, show 64 * q + (j - 64 * q) = j by omega, show (j - 64 * q) % 64 = j % 64 by omega, UInt32.add_assoc, ← UInt32.ofNat_add, show q + (j - 64 * q) / 64 = j / 64 by omega]
def zeroK (l : List UInt8) : Nat → List UInt8
  | 0 => l
  | i + 1 => List.set (zeroK l i) i 0
theorem zeroK_len {l : List UInt8} {m : Nat} (h : l.length = m) (i : Nat) : (zeroK l i).length = m := by
  induction i with
  | zero => exact h
  | succ i ih => simp [zeroK, ih]
theorem zeroK_at {l : List UInt8} (i j : Nat) : List.getD (zeroK l i) j 0 = if j < i then 0 else List.getD l j 0 := by
  induction i with
  | zero => rfl
  | succ i ih =>
    rw [zeroK, getD_set, ih]
    by_cases e : i = j
    · subst e
      rw [if_neg (Nat.lt_irrefl i), if_pos (Nat.lt_succ_self i)]
      by_cases h2 : i < (zeroK l i).length
      · rw [if_pos ⟨rfl, h2⟩]
      · rw [if_neg (fun q => h2 q.2)]
        have h3 : l.length ≤ i := by rw [zeroK_len rfl] at h2; omega
        rw [List.getD_eq_getElem?_getD, List.getElem?_eq_none h3]
        rfl
    · rw [if_neg (fun q => e q.1)]
      by_cases h2 : j < i
      · rw [if_pos h2, if_pos (by omega)]
      · rw [if_neg h2, if_neg (by omega)]
theorem macQ_zero (l : List UInt8) (q : Nat) : macQ 0 l q = 0 := by
  cases q with
  | zero => rfl
  | succ q => rw [macQ, Nat.mul_zero, Nat.zero_mod]
theorem poly_zero {k : List UInt8} (hk : k.length = 32) (l : List UInt8) : polyF (zeroK k 16) l = List.drop 16 k := by
  symm
  refine eq_range_map 0 (by simp [hk]) fun j hj => ?_
  have hz := zeroK_len hk 16
  have hr : dv B64 (rF (zeroK k 16)) = 0 := by
    rw [← (rD_val hz).1]
    have e : ∀ i, i < 16 → clampB (zeroK k 16) i = 0 := fun i hi => by
      unfold clampB
      rw [zeroK_at, if_pos hi]
      have h1 : (if i % 4 = 3 then (0 : UInt8) &&& 15 else 0) = 0 := by split <;> rfl
      rw [h1]
      split <;> rfl
    rw [rDF_eq, e 0 (by decide), e 1 (by decide), e 2 (by decide), e 3 (by decide), e 4 (by decide), e 5 (by decide), e 6 (by decide), e 7 (by decide), e 8 (by decide), e 9 (by decide), e 10 (by decide), e 11 (by decide), e 12 (by decide), e 13 (by decide), e 14 (by decide), e 15 (by decide)]
    rfl
  have hs := drop_byte (key := zeroK k 16) (i := j)
  unfold polyB
  rw [macN, hr, macQ_zero, Nat.zero_add, ← key_add hz]
  apply UInt8.toNat_inj.1
  rw [UInt8.toNat_ofNat', show 2 ^ 8 = 256 from rfl, hs, zeroK_at, if_neg (by omega), List.getD_eq_getElem?_getD (l := List.drop 16 k), List.getElem?_drop, ← List.getD_eq_getElem?_getD]

theorem counts_walk (k : List UInt8) (c : UInt32) (n : List UInt8) (a_b : Option Addr) (c_b : Nat) (b : List UInt8) (u : UInt8) (w : World) (n_k : (List.length k = 32)) (n_n : (List.length n = 12)) (i_b : InB w [] a_b c_b b) : Calls Try.prog 5 #[.agg (List.toArray (bys k)), .int .u32 ((UInt32.toNat c : Nat) : Int), .agg (List.toArray (bys n)), .slice a_b (List.length b) c_b, .int .u8 ((UInt8.toNat u : Nat) : Int)] w fun e w' => e = .returned (.bool true) ∧ Ev w [] w' [] := by
  have hs := i_b.small
  have hcb := i_b.cap
  have hsl := streamF_len k c n b
  refine d_start [(0, .agg (List.toArray (bys k))), (1, .int .u32 ((UInt32.toNat c : Nat) : Int)), (2, .agg (List.toArray (bys n))), (3, .slice a_b (List.length b) c_b), (4, .int .u8 ((UInt8.toNat u : Nat) : Int))] 77 Go.Proofs.Try.func5 Go.Proofs.Try.ntmps5 rfl (by kernel_rfl) (by kernel_rfl) ?_
  intro act0 En0
  have Hv0 : Ev w [] w [] := Ev.refl (Heap.nil _)
  refine wp_seq ?_
  refine region_from ?_  -- region 0
  refine from_op (by kernel_rfl) ?_
  refine op_newbox (d := some 5) (T := 22) (v := .agg (List.toArray (bys k))) (cs := bys k) En0 (by kernel_rfl) rfl Hv0 ?_
  intro ac2 wo3 bk1 En4 Hv5
  refine from_op (by kernel_rfl) ?_
  refine op_newbox (d := some 7) (T := 24) (v := .agg (List.toArray (bys n))) (cs := bys n) En4 (by kernel_rfl) rfl Hv5 ?_
  intro ac7 wo8 bk6 En9 Hv10
  refine d_pures [(1, .int .u32 ((UInt32.toNat c : Nat) : Int)), (3, .slice a_b (List.length b) c_b), (4, .int .u8 ((UInt8.toNat u : Nat) : Int)), (5, .pointer (some ⟨bk1, 0, none⟩)), (7, .pointer (some ⟨bk6, 0, none⟩)), (10, .bool false)] [.bool false] 3 En9 (by kernel_rfl) (by kernel_rfl) rfl ?_
  intro ac11 En12
  refine from_end (by kernel_rfl) ?_
  refine then_normal ?_
  refine wp_seq ?_
  refine region_from ?_  -- region 1
  refine from_op (by kernel_rfl) ?_
  have hM13 : Heap wo8 [] := Hv10.heap.pick [] (by kernel_rfl) (by decide)
  refine op_call (d := some 18) (f := 8) (args := #[]) En12 (by kernel_rfl) ((head_ok _).mono ?_)
  rintro _ wo15 ⟨rfl, he18⟩
  refine ⟨_, rfl, ?_⟩
  intro ac14 En16
  have Hv17 : Ev w [] wo15 [.box bk1 (bys k) 22, .box bk6 (bys n) 24] := Hv10.trans (Ev.call (R := [.box bk1 (bys k) 22, .box bk6 (bys n) 24]) Hv10.heap [0, 1] (by kernel_rfl) (by decide) he18)
  clear hM13 he18
  refine d_pures [(1, .int .u32 ((UInt32.toNat c : Nat) : Int)), (3, .slice a_b (List.length b) c_b), (4, .int .u8 ((UInt8.toNat u : Nat) : Int)), (5, .pointer (some ⟨bk1, 0, none⟩)), (7, .pointer (some ⟨bk6, 0, none⟩)), (10, .bool false), (11, .bool true)] [.bool true] 2 En16 (by kernel_rfl) (by kernel_rfl) rfl ?_
  intro ac19 En20
  refine from_end (by kernel_rfl) ?_
  refine then_normal ?_
  refine wp_seq ?_
  refine region_from ?_  -- region 2
  refine d_pures [(1, .int .u32 ((UInt32.toNat c : Nat) : Int)), (3, .slice a_b (List.length b) c_b), (5, .pointer (some ⟨bk1, 0, none⟩)), (7, .pointer (some ⟨bk6, 0, none⟩)), (10, .bool false), (11, .bool true), (20, .int .i64 (IntKind.wrap .i64 ((UInt8.toNat u : Nat) : Int)))] [.int .u8 ((UInt8.toNat u : Nat) : Int), .int .i64 (IntKind.wrap .i64 ((UInt8.toNat u : Nat) : Int))] 2 En20 (by kernel_rfl) (by kernel_rfl) rfl ?_
  intro ac21 En22
  rw [Go.Dbr.u8_to_i64 (a := ((UInt8.toNat u : Nat) : Int)) (x := u) rfl] at En22
  refine d_pures [(1, .int .u32 ((UInt32.toNat c : Nat) : Int)), (3, .slice a_b (List.length b) c_b), (5, .pointer (some ⟨bk1, 0, none⟩)), (7, .pointer (some ⟨bk6, 0, none⟩)), (10, .bool false), (11, .bool true), (20, .int .i64 ((UInt8.toNat u : Nat) : Int)), (23, .int .i64 (IntKind.wrap .i64 (Int.tdiv ((List.length b : Nat) : Int) (64 : Int))))] [.slice a_b (List.length b) c_b, .int .i64 ((List.length b : Nat) : Int), .int .i64 (IntKind.wrap .i64 (Int.tdiv ((List.length b : Nat) : Int) (64 : Int)))] 5 En22 (by kernel_rfl) (by kernel_rfl) rfl ?_
  intro ac23 En24
  rw [show IntKind.wrap .i64 (Int.tdiv ((List.length b : Nat) : Int) (64 : Int)) = (((List.length b) / 64 : Nat) : Int) from Go.Dbr.i64_quo_nat (a := ((List.length b : Nat) : Int)) (n := List.length b) (m := 64) rfl (by omega)] at En24
  refine d_pures [(1, .int .u32 ((UInt32.toNat c : Nat) : Int)), (3, .slice a_b (List.length b) c_b), (5, .pointer (some ⟨bk1, 0, none⟩)), (7, .pointer (some ⟨bk6, 0, none⟩)), (10, .bool false), (11, .bool true), (20, .int .i64 ((UInt8.toNat u : Nat) : Int)), (24, .int .i64 (IntKind.wrap .i64 ((((List.length b) / 64 : Nat) : Int) + (1 : Int))))] [.int .i64 (IntKind.wrap .i64 ((((List.length b) / 64 : Nat) : Int) + (1 : Int)))] 6 En24 (by kernel_rfl) (by kernel_rfl) rfl ?_
  intro ac25 En26
  rw [Go.Dbr.wr64 (e := (((List.length b) / 64 : Nat) : Int) + (1 : Int)) (x := ((((List.length b) / 64) + 1 : Nat) : Int)) (by omega) (by omega) (by omega)] at En26
  refine from_op (by kernel_rfl) ?_
  refine op_val (d := some 25) (x := Op.intDiv .rem .i64 ((UInt8.toNat u : Nat) : Int) ((((List.length b) / 64) + 1 : Nat) : Int)) (v := .int .i64 (((UInt8.toNat u) % (((List.length b) / 64) + 1) : Nat) : Int)) En26 (by kernel_rfl) (Go.Dbr.run_rem_nat (UInt8.toNat u) (((List.length b) / 64) + 1) (by omega) _) ?_
  intro ac27 En28
  refine d_pures [(1, .int .u32 ((UInt32.toNat c : Nat) : Int)), (3, .slice a_b (List.length b) c_b), (5, .pointer (some ⟨bk1, 0, none⟩)), (7, .pointer (some ⟨bk6, 0, none⟩)), (10, .bool false), (11, .bool true), (12, .int .i64 (((UInt8.toNat u) % (((List.length b) / 64) + 1) : Nat) : Int))] [.int .i64 (((UInt8.toNat u) % (((List.length b) / 64) + 1) : Nat) : Int)] 8 En28 (by kernel_rfl) (by kernel_rfl) rfl ?_
  intro ac29 En30
  refine from_end (by kernel_rfl) ?_
  have hbl : 64 * ((UInt8.toNat u) % (((List.length b) / 64) + 1)) ≤ List.length b := cut_le _ _
  generalize hbe : (UInt8.toNat u) % (((List.length b) / 64) + 1) = bb at *
  have hsl1 := streamF_len k c n (List.take (64 * bb) b)
  have hsl2 := streamF_len k (c + UInt32.ofNat bb) n (List.drop (64 * bb) b)
  have hpl := polyF_len (zeroK k 16) b
  rw [List.length_take] at hsl1
  rw [List.length_drop] at hsl2
  refine then_normal ?_
  refine wp_seq ?_
  refine region_cut (F := fun ac wo => ∃ (aoq110 : _) (coq110 : _), Env ac 77 [(1, .int .u32 ((UInt32.toNat c : Nat) : Int)), (3, .slice a_b (List.length b) c_b), (5, .pointer (some ⟨bk1, 0, none⟩)), (7, .pointer (some ⟨bk6, 0, none⟩)), (10, .bool false), (11, .bool true), (12, .int .i64 ((bb : Nat) : Int)), (13, .slice aoq110 (List.length (streamF k c n (List.take (64 * bb) b))) coq110)] ∧ Ev w [] wo [.vec aoq110 coq110 1 (bys (streamF k c n (List.take (64 * bb) b))) 5, .box bk1 (bys k) 22, .box bk6 (bys n) 24]) ?_ ?_
  ·
    refine h_start (fun wv => Ev w [] wv [.box bk1 (bys k) 22, .box bk6 (bys n) 24]) [] (by kernel_rfl) 9 (by kernel_rfl) ?_  -- region 3
    have wo31 := Hv17.trans (Ev.drew Hv17.heap)
    refine h_read (d := some 26) (s := nv (Instr.loadAt 22 (.pointer (some ⟨bk1, 0, none⟩)))) En30 (v := .agg (List.toArray (bys k))) 0 (by kernel_rfl) (fun w hS => run_nv (run_loadAgg2 (m := 32) (cs := bys k) (bys_lenh n_k) (by kernel_rfl) (by kernel_rfl) (hS.heap.cells (k := 0) (off := 0) (m := 32) rfl (load_whole (bys_lenh n_k))))) (by kernel_rfl) rfl (wo31.pick [0, 1] (by kernel_rfl) (by decide)) ?_
    intro ac119 En120
    refine h_pureR (d := some 27) En120 (v := .int .u32 ((UInt32.toNat c : Nat) : Int)) 1 (by kernel_rfl) (by kernel_rfl) rfl (fun _ => wo31.pick [0, 1] (by kernel_rfl) (by decide)) ?_
    intro ac121 En122
    refine h_read (d := some 28) (s := nv (Instr.loadAt 24 (.pointer (some ⟨bk6, 0, none⟩)))) En122 (v := .agg (List.toArray (bys n))) 2 (by kernel_rfl) (fun w hS => run_nv (run_loadAgg2 (m := 12) (cs := bys n) (bys_lenh n_n) (by kernel_rfl) (by kernel_rfl) (hS.heap.cells (k := 1) (off := 0) (m := 12) rfl (load_whole (bys_lenh n_n))))) (by kernel_rfl) rfl (wo31.pick [0, 1] (by kernel_rfl) (by decide)) ?_
    intro ac123 En124
    refine h_pureR (d := some 29) En124 (v := .slice a_b (List.length b) c_b) 3 (by kernel_rfl) (by kernel_rfl) rfl (fun _ => wo31.pick [0, 1] (by kernel_rfl) (by decide)) ?_
    intro ac125 En126
    refine h_pureR (d := some 30) En126 (v := .int .i64 ((bb : Nat) : Int)) 4 (by kernel_rfl) (by kernel_rfl) rfl (fun _ => wo31.pick [0, 1] (by kernel_rfl) (by decide)) ?_
    intro ac127 En128
    refine h_pureR (d := some 31) En128 (v := .int .i64 (IntKind.wrap .i64 ((64 : Int) * ((bb : Nat) : Int)))) 5 (by kernel_rfl) (by kernel_rfl) rfl (fun _ => wo31.pick [0, 1] (by kernel_rfl) (by decide)) ?_
    intro ac129 En130
    rw [Go.Dbr.wr64 (e := (64 : Int) * ((bb : Nat) : Int)) (x := ((64 * bb : Nat) : Int)) (by omega) (by omega) (by omega)] at En130
    refine h_at 6 (by kernel_rfl) rfl ?_
    have hcap131 := i_b.cap
    refine op_slice0 (d := some 32) (t := 25) (e := 5) (sz := 1) (len := List.length b) (cap := c_b) (hi := 64 * bb) (ao := a_b) (lov := none) (hiv := (some (.int .i64 ((64 * bb : Nat) : Int)))) En130 (by kernel_rfl) (by kernel_rfl) (by kernel_rfl) (by omega) (.inl ⟨rfl, rfl⟩) (.inr ⟨.i64, rfl⟩) ?_
    intro ac132 En133
    refine ⟨fun _ => wo31.pick [0, 1] (by kernel_rfl) (by decide), ?_⟩
    refine h_at 7 (by kernel_rfl) rfl ?_
    have hM135 : Heap wo15.drew [] := wo31.heap.pick [] (by kernel_rfl) (by decide)
    refine op_call (d := some 33) (f := 9) (args := #[.agg (List.toArray (bys k)), .int .u32 ((UInt32.toNat c : Nat) : Int), .agg (List.toArray (bys n)), .slice a_b (64 * bb) c_b]) En133 (by kernel_rfl) ((stream_go _ k n_k c n n_n a_b (64 * bb) c_b (List.take (64 * bb) b) (by first | rfl | (simp; done) | (simp; omega) | omega) (((i_b.ev wo31).pick [] (by kernel_rfl)).take (64 * bb))).mono ?_)
    rintro _ wo137 ⟨aoq134, coq134, rfl, he140⟩
    refine ⟨_, rfl, ?_⟩
    intro ac136 En138
    have Hv139 : Ev w [] wo137 [.vec aoq134 coq134 1 (bys (streamF k c n (List.take (64 * bb) b))) 5, .box bk1 (bys k) 22, .box bk6 (bys n) 24] := wo31.trans (Ev.call (R := [.box bk1 (bys k) 22, .box bk6 (bys n) 24]) wo31.heap [0, 1] (by kernel_rfl) (by decide) he140)
    clear hM135 he140
    refine ⟨fun _ => Hv139.pick [1, 2] (by kernel_rfl) (by decide), ?_⟩
    refine h_pureR (d := some 13) En138 (v := .slice aoq134 (List.length (streamF k c n (List.take (64 * bb) b))) coq134) 8 (by kernel_rfl) (by kernel_rfl) rfl (fun _ => Hv139.pick [1, 2] (by kernel_rfl) (by decide)) ?_
    intro ac141 En142
    exact h_end (by kernel_rfl) ⟨aoq134, coq134, En142.sub (by kernel_rfl), Hv139.pick [0, 1, 2] (by kernel_rfl) (by decide)⟩
  rintro ac143 wo144 ⟨aoq110, coq110, En145, Hv146⟩
  refine then_normal ?_
  refine wp_seq ?_
  refine region_cut (F := fun ac wo => ∃ (aoq238 : _) (coq238 : _), Env ac 77 [(1, .int .u32 ((UInt32.toNat c : Nat) : Int)), (3, .slice a_b (List.length b) c_b), (5, .pointer (some ⟨bk1, 0, none⟩)), (7, .pointer (some ⟨bk6, 0, none⟩)), (10, .bool false), (11, .bool true), (12, .int .i64 ((bb : Nat) : Int)), (13, .slice aoq110 (List.length (streamF k c n (List.take (64 * bb) b))) coq110), (14, .slice aoq238 (List.length (streamF k (c + (UInt32.ofNat bb)) n (List.drop (64 * bb) b))) coq238)] ∧ Ev w [] wo [.vec aoq238 coq238 1 (bys (streamF k (c + (UInt32.ofNat bb)) n (List.drop (64 * bb) b))) 5, .vec aoq110 coq110 1 (bys (streamF k c n (List.take (64 * bb) b))) 5, .box bk1 (bys k) 22, .box bk6 (bys n) 24]) ?_ ?_
  ·
    refine h_start (fun wv => Ev w [] wv [.box bk1 (bys k) 22, .box bk6 (bys n) 24]) [] (by kernel_rfl) 12 (by kernel_rfl) ?_  -- region 4
    have wo147 := Hv146.trans (Ev.drew Hv146.heap)
    refine h_read (d := some 34) (s := nv (Instr.loadAt 22 (.pointer (some ⟨bk1, 0, none⟩)))) En145 (v := .agg (List.toArray (bys k))) 0 (by kernel_rfl) (fun w hS => run_nv (run_loadAgg2 (m := 32) (cs := bys k) (bys_lenh n_k) (by kernel_rfl) (by kernel_rfl) (hS.heap.cells (k := 0) (off := 0) (m := 32) rfl (load_whole (bys_lenh n_k))))) (by kernel_rfl) rfl (wo147.pick [1, 2] (by kernel_rfl) (by decide)) ?_
    intro ac247 En248
    refine h_pureR (d := some 35) En248 (v := .int .u32 ((UInt32.toNat c : Nat) : Int)) 1 (by kernel_rfl) (by kernel_rfl) rfl (fun _ => wo147.pick [1, 2] (by kernel_rfl) (by decide)) ?_
    intro ac249 En250
    refine h_pureR (d := some 36) En250 (v := .int .i64 ((bb : Nat) : Int)) 2 (by kernel_rfl) (by kernel_rfl) rfl (fun _ => wo147.pick [1, 2] (by kernel_rfl) (by decide)) ?_
    intro ac251 En252
    refine h_pureR (d := some 37) En252 (v := .int .u32 (IntKind.wrap .u32 ((bb : Nat) : Int))) 3 (by kernel_rfl) (by kernel_rfl) rfl (fun _ => wo147.pick [1, 2] (by kernel_rfl) (by decide)) ?_
    intro ac253 En254
    rw [n_to_u32 (a := ((bb : Nat) : Int)) (n := bb) rfl] at En254
    refine h_pureR (d := some 38) En254 (v := .int .u32 (IntKind.wrap .u32 (((UInt32.toNat c : Nat) : Int) + ((UInt32.toNat (UInt32.ofNat bb) : Nat) : Int)))) 4 (by kernel_rfl) (by kernel_rfl) rfl (fun _ => wo147.pick [1, 2] (by kernel_rfl) (by decide)) ?_
    intro ac255 En256
    rw [Go.Dbr.u32_add (a := ((UInt32.toNat c : Nat) : Int)) (b := ((UInt32.toNat (UInt32.ofNat bb) : Nat) : Int)) (x := c) (y := UInt32.ofNat bb) rfl rfl] at En256
    refine h_read (d := some 39) (s := nv (Instr.loadAt 24 (.pointer (some ⟨bk6, 0, none⟩)))) En256 (v := .agg (List.toArray (bys n))) 5 (by kernel_rfl) (fun w hS => run_nv (run_loadAgg2 (m := 12) (cs := bys n) (bys_lenh n_n) (by kernel_rfl) (by kernel_rfl) (hS.heap.cells (k := 1) (off := 0) (m := 12) rfl (load_whole (bys_lenh n_n))))) (by kernel_rfl) rfl (wo147.pick [1, 2] (by kernel_rfl) (by decide)) ?_
    intro ac257 En258
    refine h_pureR (d := some 40) En258 (v := .slice a_b (List.length b) c_b) 6 (by kernel_rfl) (by kernel_rfl) rfl (fun _ => wo147.pick [1, 2] (by kernel_rfl) (by decide)) ?_
    intro ac259 En260
    refine h_pureR (d := some 41) En260 (v := .int .i64 ((bb : Nat) : Int)) 7 (by kernel_rfl) (by kernel_rfl) rfl (fun _ => wo147.pick [1, 2] (by kernel_rfl) (by decide)) ?_
    intro ac261 En262
    refine h_pureR (d := some 42) En262 (v := .int .i64 (IntKind.wrap .i64 ((64 : Int) * ((bb : Nat) : Int)))) 8 (by kernel_rfl) (by kernel_rfl) rfl (fun _ => wo147.pick [1, 2] (by kernel_rfl) (by decide)) ?_
    intro ac263 En264
    rw [Go.Dbr.wr64 (e := (64 : Int) * ((bb : Nat) : Int)) (x := ((64 * bb : Nat) : Int)) (by omega) (by omega) (by omega)] at En264
    refine h_at 9 (by kernel_rfl) rfl ?_
    have hcap265 := i_b.cap
    refine op_slice (d := some 43) (t := 25) (e := 5) (sz := 1) (len := List.length b) (cap := c_b) (lo := 64 * bb) (hi := List.length b) (ao := a_b) (lov := (some (.int .i64 ((64 * bb : Nat) : Int)))) (hiv := none) En264 (by kernel_rfl) (by kernel_rfl) (by kernel_rfl) (by omega) (by omega) (.inr ⟨.i64, rfl⟩) (.inl ⟨rfl, rfl⟩) ?_
    intro ac266 En267
    refine ⟨fun _ => wo147.pick [1, 2] (by kernel_rfl) (by decide), ?_⟩
    refine h_at 10 (by kernel_rfl) rfl ?_
    have hM269 : Heap wo144.drew [] := wo147.heap.pick [] (by kernel_rfl) (by decide)
    refine op_call (d := some 44) (f := 9) (args := #[.agg (List.toArray (bys k)), .int .u32 ((UInt32.toNat (c + (UInt32.ofNat bb)) : Nat) : Int), .agg (List.toArray (bys n)), .slice (cutAt a_b c_b (64 * bb) 1) ((List.length b) - (64 * bb)) (c_b - (64 * bb))]) En267 (by kernel_rfl) ((stream_go _ k n_k (c + (UInt32.ofNat bb)) n n_n (cutAt a_b c_b (64 * bb) 1) ((List.length b) - (64 * bb)) (c_b - (64 * bb)) (List.drop (64 * bb) b) (by first | rfl | (simp; done) | (simp; omega) | omega) (((i_b.ev wo147).pick [] (by kernel_rfl)).drop (64 * bb) (by omega))).mono ?_)
    rintro _ wo271 ⟨aoq268, coq268, rfl, he274⟩
    refine ⟨_, rfl, ?_⟩
    intro ac270 En272
    have Hv273 : Ev w [] wo271 [.vec aoq268 coq268 1 (bys (streamF k (c + (UInt32.ofNat bb)) n (List.drop (64 * bb) b))) 5, .vec aoq110 coq110 1 (bys (streamF k c n (List.take (64 * bb) b))) 5, .box bk1 (bys k) 22, .box bk6 (bys n) 24] := wo147.trans (Ev.call (R := [.vec aoq110 coq110 1 (bys (streamF k c n (List.take (64 * bb) b))) 5, .box bk1 (bys k) 22, .box bk6 (bys n) 24]) wo147.heap [0, 1, 2] (by kernel_rfl) (by decide) he274)
    clear hM269 he274
    refine ⟨fun _ => Hv273.pick [2, 3] (by kernel_rfl) (by decide), ?_⟩
    refine h_pureR (d := some 14) En272 (v := .slice aoq268 (List.length (streamF k (c + (UInt32.ofNat bb)) n (List.drop (64 * bb) b))) coq268) 11 (by kernel_rfl) (by kernel_rfl) rfl (fun _ => Hv273.pick [2, 3] (by kernel_rfl) (by decide)) ?_
    intro ac275 En276
    exact h_end (by kernel_rfl) ⟨aoq268, coq268, En276.sub (by kernel_rfl), Hv273.pick [0, 1, 2, 3] (by kernel_rfl) (by decide)⟩
  rintro ac277 wo278 ⟨aoq238, coq238, En279, Hv280⟩
  refine then_normal ?_
  refine wp_seq ?_
  refine region_from ?_  -- region 5
  refine from_op (by kernel_rfl) ?_
  refine op_loadaggbox (d := some 45) (t := 22) (b := bk1) (off := 0) (k := 2) (m := 32) (xs := bys k) En279 (by kernel_rfl) Hv280 rfl (load_whole (bys_lenh n_k)) (bys_lenh n_k) (by kernel_rfl) (by kernel_rfl) ?_
  intro ac281 En282
  refine from_op (by kernel_rfl) ?_
  refine op_alloc (d := some 15) (T := 22) (x := .tuple #[]) (z := .agg (List.toArray (bys (List.replicate 32 0)))) (cs := bys (List.replicate 32 0)) En282 (by kernel_rfl) (by kernel_rfl) (by kernel_rfl) Hv280 ?_
  intro ac284 wo285 bk283 En286 Hv287
  refine from_op (by kernel_rfl) ?_
  refine op_storeaggbox (d := none) (t := 22) (b := bk283) (off := 0) (k := 4) (m := 32) (xs := bys k) (v := .agg (List.toArray (bys k))) (cs' := bys k) En286 (by kernel_rfl) Hv287 rfl rfl (bys_lenh n_k) (by rw [(bys_lenh (List.length_replicate))]; decide) (by kernel_rfl) (bys_one _) (store_whole (bys_lenh (List.length_replicate))) (L' := [.vec aoq238 coq238 1 (bys (streamF k (c + (UInt32.ofNat bb)) n (List.drop (64 * bb) b))) 5, .vec aoq110 coq110 1 (bys (streamF k c n (List.take (64 * bb) b))) 5, .box bk1 (bys k) 22, .box bk6 (bys n) 24, .box bk283 (bys k) 22]) rfl ?_
  intro ac288 wo289  En290 Hv291
  refine from_end (by kernel_rfl) ?_
  refine then_normal ?_
  refine wp_seq ?_
  refine wp_seq ?_
  refine region_from ?_  -- region 6
  refine d_pures [(1, .int .u32 ((UInt32.toNat c : Nat) : Int)), (3, .slice a_b (List.length b) c_b), (5, .pointer (some ⟨bk1, 0, none⟩)), (7, .pointer (some ⟨bk6, 0, none⟩)), (10, .bool false), (11, .bool true), (12, .int .i64 ((bb : Nat) : Int)), (13, .slice aoq110 (List.length (streamF k c n (List.take (64 * bb) b))) coq110), (14, .slice aoq238 (List.length (streamF k (c + (UInt32.ofNat bb)) n (List.drop (64 * bb) b))) coq238), (15, .pointer (some ⟨bk283, 0, none⟩)), (16, .int .i64 0)] [.int .i64 0] 1 En290 (by kernel_rfl) (by kernel_rfl) rfl ?_
  intro ac292 En293
  refine from_end (by kernel_rfl) ?_
  refine then_normal ?_
  refine wp_block ?_
  refine loop_m (fun ms294 ac wo => ∃ (i : Nat) (z : List UInt8), ms294 = (16 - i : Nat) ∧ Env ac 77 [(1, .int .u32 ((UInt32.toNat c : Nat) : Int)), (3, .slice a_b (List.length b) c_b), (5, .pointer (some ⟨bk1, 0, none⟩)), (7, .pointer (some ⟨bk6, 0, none⟩)), (10, .bool false), (11, .bool true), (12, .int .i64 ((bb : Nat) : Int)), (13, .slice aoq110 (List.length (streamF k c n (List.take (64 * bb) b))) coq110), (14, .slice aoq238 (List.length (streamF k (c + (UInt32.ofNat bb)) n (List.drop (64 * bb) b))) coq238), (15, .pointer (some ⟨bk283, 0, none⟩)), (16, .int .i64 ((i : Nat) : Int))] ∧ Ev w [] wo [.box bk283 (bys z) 22, .vec aoq238 coq238 1 (bys (streamF k (c + (UInt32.ofNat bb)) n (List.drop (64 * bb) b))) 5, .vec aoq110 coq110 1 (bys (streamF k c n (List.take (64 * bb) b))) 5, .box bk1 (bys k) 22, .box bk6 (bys n) 24] ∧ (i ≤ 16) ∧ (List.length z = 32) ∧ (z = zeroK k i)) ⟨_, 0, k, rfl, En293.sub (by kernel_rfl), Hv291.pick [4, 0, 1, 2, 3] (by kernel_rfl) (by decide), by omega, n_k, rfl⟩ ?_
  rintro mm300 ac296 wo297 ⟨i, z, rfl, En298, Hv299, hiz, hlz, hez⟩
  refine wp_seq ?_
  refine wp_seq ?_
  refine region_from ?_  -- region 7
  refine d_pures [(1, .int .u32 ((UInt32.toNat c : Nat) : Int)), (3, .slice a_b (List.length b) c_b), (5, .pointer (some ⟨bk1, 0, none⟩)), (7, .pointer (some ⟨bk6, 0, none⟩)), (10, .bool false), (11, .bool true), (12, .int .i64 ((bb : Nat) : Int)), (13, .slice aoq110 (List.length (streamF k c n (List.take (64 * bb) b))) coq110), (14, .slice aoq238 (List.length (streamF k (c + (UInt32.ofNat bb)) n (List.drop (64 * bb) b))) coq238), (15, .pointer (some ⟨bk283, 0, none⟩)), (16, .int .i64 ((i : Nat) : Int)), (47, .bool (decide (((i : Nat) : Int) < (16 : Int))))] [.int .i64 ((i : Nat) : Int), .bool (decide (((i : Nat) : Int) < (16 : Int)))] 2 En298 (by kernel_rfl) (by kernel_rfl) rfl ?_
  intro ac301 En302
  refine from_end (by kernel_rfl) ?_
  refine then_normal ?_
  refine cond_at En302 (t := decide (((i : Nat) : Int) < (16 : Int))) (by kernel_rfl) (fun hc303 => ?_) (fun hc303 => ?_)
  ·
    replace hc303 : ((i : Nat) : Int) < (16 : Int) := of_decide_eq_true hc303
    refine wp_skip ?_
    refine then_normal ?_
    refine wp_seq ?_
    refine wp_block ?_
    refine region_from ?_  -- region 9
    refine d_pures [(1, .int .u32 ((UInt32.toNat c : Nat) : Int)), (3, .slice a_b (List.length b) c_b), (5, .pointer (some ⟨bk1, 0, none⟩)), (7, .pointer (some ⟨bk6, 0, none⟩)), (10, .bool false), (11, .bool true), (12, .int .i64 ((bb : Nat) : Int)), (13, .slice aoq110 (List.length (streamF k c n (List.take (64 * bb) b))) coq110), (14, .slice aoq238 (List.length (streamF k (c + (UInt32.ofNat bb)) n (List.drop (64 * bb) b))) coq238), (15, .pointer (some ⟨bk283, 0, none⟩)), (16, .int .i64 ((i : Nat) : Int)), (50, .int .i64 ((i : Nat) : Int))] [.int .i64 ((i : Nat) : Int)] 1 En302 (by kernel_rfl) (by kernel_rfl) rfl ?_
    intro ac304 En305
    refine from_op (by kernel_rfl) ?_
    refine op_val (d := some 51) (x := Instr.indexAt 22 (.pointer (some ⟨bk283, 0, none⟩)) (.int .i64 ((i : Nat) : Int))) (v := .pointer (some ⟨bk283, i, none⟩)) En305 (by kernel_rfl) (Go.Dbr.run_indexarr (e := 5) (sz := 1) (m := 32) (j := i) (o := i) (by kernel_rfl) (by kernel_rfl) (by omega) (by omega) (by omega) _) ?_
    intro ac306 En307
    refine from_op (by kernel_rfl) ?_
    have hb308 : i < List.length z := by rw [hlz]; omega
    refine op_storebox2 (d := none) (t := 5) (b := bk283) (off := i) (k := 0) (v := .int .u8 0) En307 (by kernel_rfl) Hv299 rfl (bys_getD hb308) (by kernel_rfl) rfl (bys_set _ _ (0 : UInt8)) (L' := [.box bk283 (bys (List.set z i (0 : UInt8))) 22, .vec aoq238 coq238 1 (bys (streamF k (c + (UInt32.ofNat bb)) n (List.drop (64 * bb) b))) 5, .vec aoq110 coq110 1 (bys (streamF k c n (List.take (64 * bb) b))) 5, .box bk1 (bys k) 22, .box bk6 (bys n) 24]) rfl ?_
    intro ac309 wo310  En311 Hv312
    refine from_end (by kernel_rfl) ?_
    refine block_normal ?_
    refine then_normal ?_
    refine region_from ?_  -- region 8
    refine d_pures [(1, .int .u32 ((UInt32.toNat c : Nat) : Int)), (3, .slice a_b (List.length b) c_b), (5, .pointer (some ⟨bk1, 0, none⟩)), (7, .pointer (some ⟨bk6, 0, none⟩)), (10, .bool false), (11, .bool true), (12, .int .i64 ((bb : Nat) : Int)), (13, .slice aoq110 (List.length (streamF k c n (List.take (64 * bb) b))) coq110), (14, .slice aoq238 (List.length (streamF k (c + (UInt32.ofNat bb)) n (List.drop (64 * bb) b))) coq238), (15, .pointer (some ⟨bk283, 0, none⟩)), (16, .int .i64 ((i : Nat) : Int)), (49, .int .i64 (IntKind.wrap .i64 (((i : Nat) : Int) + (1 : Int))))] [.int .i64 ((i : Nat) : Int), .int .i64 (IntKind.wrap .i64 (((i : Nat) : Int) + (1 : Int)))] 2 En311 (by kernel_rfl) (by kernel_rfl) rfl ?_
    intro ac313 En314
    rw [Go.Dbr.wr64 (e := ((i : Nat) : Int) + (1 : Int)) (x := ((i + 1 : Nat) : Int)) (by omega) (by omega) (by omega)] at En314
    refine d_pures [(1, .int .u32 ((UInt32.toNat c : Nat) : Int)), (3, .slice a_b (List.length b) c_b), (5, .pointer (some ⟨bk1, 0, none⟩)), (7, .pointer (some ⟨bk6, 0, none⟩)), (10, .bool false), (11, .bool true), (12, .int .i64 ((bb : Nat) : Int)), (13, .slice aoq110 (List.length (streamF k c n (List.take (64 * bb) b))) coq110), (14, .slice aoq238 (List.length (streamF k (c + (UInt32.ofNat bb)) n (List.drop (64 * bb) b))) coq238), (15, .pointer (some ⟨bk283, 0, none⟩)), (16, .int .i64 ((i + 1 : Nat) : Int))] [.int .i64 ((i + 1 : Nat) : Int)] 3 En314 (by kernel_rfl) (by kernel_rfl) rfl ?_
    intro ac315 En316
    refine from_end (by kernel_rfl) ?_
    refine then_normal ?_
    refine ⟨_, ⟨i + 1, (List.set z i (0 : UInt8)), rfl, En316.sub (by kernel_rfl), Hv312.pick [0, 1, 2, 3, 4] (by kernel_rfl) (by decide), by omega, (List.length_set.trans hlz), by first | (rw [hez]; rfl) | (rw [hez, hc2]; rfl) | rfl⟩, ?_⟩
    omega
  ·
    replace hc303 : ¬ (((i : Nat) : Int) < (16 : Int)) := of_decide_eq_false hc303
    refine wp_exit ?_
    refine then_exit ?_
    refine then_exit ?_
    refine block_exit ?_
    refine then_normal ?_
    refine wp_seq ?_
    have hnz : i = 16 := by omega
    have hfz : z = zeroK k 16 := by rw [hez, hnz] <;> rfl
    rw [show z = (zeroK k 16) from hfz] at Hv299
    refine region_from ?_  -- region 10
    refine from_op (by kernel_rfl) ?_
    refine op_loadaggbox (d := some 52) (t := 22) (b := bk283) (off := 0) (k := 0) (m := 32) (xs := bys (zeroK k 16)) En302 (by kernel_rfl) Hv299 rfl (load_whole (bys_lenh (zeroK_len n_k 16))) (bys_lenh (zeroK_len n_k 16)) (by kernel_rfl) (by kernel_rfl) ?_
    intro ac317 En318
    refine d_pures [(1, .int .u32 ((UInt32.toNat c : Nat) : Int)), (3, .slice a_b (List.length b) c_b), (5, .pointer (some ⟨bk1, 0, none⟩)), (7, .pointer (some ⟨bk6, 0, none⟩)), (10, .bool false), (11, .bool true), (12, .int .i64 ((bb : Nat) : Int)), (13, .slice aoq110 (List.length (streamF k c n (List.take (64 * bb) b))) coq110), (14, .slice aoq238 (List.length (streamF k (c + (UInt32.ofNat bb)) n (List.drop (64 * bb) b))) coq238), (15, .pointer (some ⟨bk283, 0, none⟩)), (16, .int .i64 ((i : Nat) : Int)), (52, .agg (List.toArray (bys (zeroK k 16)))), (53, .slice a_b (List.length b) c_b)] [.slice a_b (List.length b) c_b] 2 En318 (by kernel_rfl) (by kernel_rfl) rfl ?_
    intro ac319 En320
    refine from_op (by kernel_rfl) ?_
    have hM321 : Heap wo297 [] := Hv299.heap.pick [] (by kernel_rfl) (by decide)
    refine op_call (d := some 54) (f := 13) (args := #[.agg (List.toArray (bys (zeroK k 16))), .slice a_b (List.length b) c_b]) En320 (by kernel_rfl) ((poly_go _ (zeroK k 16) (zeroK_len n_k 16) a_b (List.length b) c_b b (by first | rfl | (simp; done) | (simp; omega) | omega) ((i_b.ev Hv299).pick [] (by kernel_rfl))).mono ?_)
    rintro _ wo323 ⟨rfl, he326⟩
    refine ⟨_, rfl, ?_⟩
    intro ac322 En324
    have Hv325 : Ev w [] wo323 [.box bk283 (bys (zeroK k 16)) 22, .vec aoq238 coq238 1 (bys (streamF k (c + (UInt32.ofNat bb)) n (List.drop (64 * bb) b))) 5, .vec aoq110 coq110 1 (bys (streamF k c n (List.take (64 * bb) b))) 5, .box bk1 (bys k) 22, .box bk6 (bys n) 24] := Hv299.trans (Ev.call (R := [.box bk283 (bys (zeroK k 16)) 22, .vec aoq238 coq238 1 (bys (streamF k (c + (UInt32.ofNat bb)) n (List.drop (64 * bb) b))) 5, .vec aoq110 coq110 1 (bys (streamF k c n (List.take (64 * bb) b))) 5, .box bk1 (bys k) 22, .box bk6 (bys n) 24]) Hv299.heap [0, 1, 2, 3, 4] (by kernel_rfl) (by decide) he326)
    clear hM321 he326
    refine from_op (by kernel_rfl) ?_
    refine op_alloc (d := some 17) (T := 31) (x := .tuple #[]) (z := .agg (List.toArray (bys (List.replicate 16 0)))) (cs := bys (List.replicate 16 0)) En324 (by kernel_rfl) (by kernel_rfl) (by kernel_rfl) Hv325 ?_
    intro ac328 wo329 bk327 En330 Hv331
    refine from_op (by kernel_rfl) ?_
    refine op_storeaggbox (d := none) (t := 31) (b := bk327) (off := 0) (k := 5) (m := 16) (xs := bys (polyF (zeroK k 16) b)) (v := .agg (List.toArray (bys (polyF (zeroK k 16) b)))) (cs' := bys (polyF (zeroK k 16) b)) En330 (by kernel_rfl) Hv331 rfl rfl (bys_lenh (polyF_len _ _)) (by rw [(bys_lenh (List.length_replicate))]; decide) (by kernel_rfl) (bys_one _) (store_whole (bys_lenh (List.length_replicate))) (L' := [.box bk283 (bys (zeroK k 16)) 22, .vec aoq238 coq238 1 (bys (streamF k (c + (UInt32.ofNat bb)) n (List.drop (64 * bb) b))) 5, .vec aoq110 coq110 1 (bys (streamF k c n (List.take (64 * bb) b))) 5, .box bk1 (bys k) 22, .box bk6 (bys n) 24, .box bk327 (bys (polyF (zeroK k 16) b)) 31]) rfl ?_
    intro ac332 wo333  En334 Hv335
    refine from_end (by kernel_rfl) ?_
    refine then_normal ?_
    refine wp_seq ?_
    refine region_cut (F := fun ac wo => Env ac 77 [(1, .int .u32 ((UInt32.toNat c : Nat) : Int)), (3, .slice a_b (List.length b) c_b), (5, .pointer (some ⟨bk1, 0, none⟩)), (7, .pointer (some ⟨bk6, 0, none⟩)), (10, .bool true), (12, .int .i64 ((bb : Nat) : Int)), (15, .pointer (some ⟨bk283, 0, none⟩)), (16, .int .i64 ((i : Nat) : Int)), (17, .pointer (some ⟨bk327, 0, none⟩))] ∧ Ev w [] wo [.box bk283 (bys (zeroK k 16)) 22, .box bk1 (bys k) 22, .box bk6 (bys n) 24, .box bk327 (bys (polyF (zeroK k 16) b)) 31]) ?_ ?_
    ·
      refine h_start (fun wv => Ev w [] wv [.vec aoq238 coq238 1 (bys (streamF k (c + (UInt32.ofNat bb)) n (List.drop (64 * bb) b))) 5, .vec aoq110 coq110 1 (bys (streamF k c n (List.take (64 * bb) b))) 5, .box bk1 (bys k) 22, .box bk6 (bys n) 24, .box bk327 (bys (polyF (zeroK k 16) b)) 31]) [] (by kernel_rfl) 23 (by kernel_rfl) ?_  -- region 11
      have wo336 := Hv335.trans (Ev.drew Hv335.heap)
      refine h_name fun G hG => ?_
      have nd714 : ∀ (ac : Act) (wo : World), Env ac 77 [(1, .int .u32 ((UInt32.toNat c : Nat) : Int)), (3, .slice a_b (List.length b) c_b), (5, .pointer (some ⟨bk1, 0, none⟩)), (7, .pointer (some ⟨bk6, 0, none⟩)), (10, .bool false), (12, .int .i64 ((bb : Nat) : Int)), (15, .pointer (some ⟨bk283, 0, none⟩)), (16, .int .i64 ((i : Nat) : Int)), (17, .pointer (some ⟨bk327, 0, none⟩)), (70, .bool true), (71, .slice (some ⟨bk327, 0, none⟩) 16 16)] → Ev w [] wo [.box bk283 (bys (zeroK k 16)) 22, .vec aoq238 coq238 1 (bys (streamF k (c + (UInt32.ofNat bb)) n (List.drop (64 * bb) b))) 5, .vec aoq110 coq110 1 (bys (streamF k c n (List.take (64 * bb) b))) 5, .box bk1 (bys k) 22, .box bk6 (bys n) 24, .box bk327 (bys (polyF (zeroK k 16) b)) 31] → G 6 #[true, true, true, true, true, true, true, true, true, true, true, true, true, true, true, true, true, false, false, false, false, false, false] ac wo := by
        intro ac715 wo716 En717 Hv718
        refine h_from hG ?_
        refine h_read (d := some 72) (s := nv (convert 25 9 (.slice (some ⟨bk327, 0, none⟩) 16 16))) En717 (v := .string (bstr (polyF (zeroK k 16) b))) 17 (by kernel_rfl) (fun w hS => run_nv (run_str2 (e := 5) (bs := polyF (zeroK k 16) b) (by first | (simp; done) | (simp; omega) | omega) (by kernel_rfl) (by kernel_rfl) (by kernel_rfl) (hS.heap.readsBox (k := 4) (m := 16) rfl (load_whole (bys_lenh (polyF_len _ _)))) (fun e => by cases e))) (by kernel_rfl) rfl (Hv718.pick [1, 2, 3, 4, 5] (by kernel_rfl) (by decide)) ?_
        intro ac719 En720
        refine h_at 18 (by kernel_rfl) rfl ?_
        refine op_slicearr (d := some 73) (t := 22) (e := 5) (sz := 1) (m := 32) (lo := 16) (hi := 32) (b := bk1) (off := 0) (lov := (some (.int .i64 16))) (hiv := none) (o := 16) En720 (by kernel_rfl) (by kernel_rfl) (by kernel_rfl) (by omega) (by omega) (by omega) (.inr ⟨.i64, rfl⟩) (.inl ⟨rfl, rfl⟩) (by omega) ?_
        intro ac721 En722
        refine ⟨fun _ => Hv718.pick [1, 2, 3, 4, 5] (by kernel_rfl) (by decide), ?_⟩
        refine h_read (d := some 74) (s := nv (convert 25 9 (.slice (some ⟨bk1, 16, none⟩) 16 16))) En722 (v := .string (bstr (List.take 16 (List.drop 16 k)))) 19 (by kernel_rfl) (fun w hS => run_nv (run_str2 (e := 5) (bs := List.take 16 (List.drop 16 k)) (by first | (simp; done) | (simp; omega) | omega) (by kernel_rfl) (by kernel_rfl) (by kernel_rfl) (bys_box_reads (hS.heap.readsBox (k := 2) (m := 32) rfl (load_whole (bys_lenh n_k))) 16 16) (fun e => by cases e))) (by kernel_rfl) rfl (Hv718.pick [1, 2, 3, 4, 5] (by kernel_rfl) (by decide)) ?_
        intro ac723 En724
        refine h_pureR (d := some 75) En724 (v := .bool (ByteArray.toList (bstr (polyF (zeroK k 16) b)) == ByteArray.toList (bstr (List.take 16 (List.drop 16 k))))) 20 (by kernel_rfl) (by kernel_rfl) rfl (fun _ => Hv718.pick [1, 2, 3, 4, 5] (by kernel_rfl) (by decide)) ?_
        intro ac725 En726
        rw [Go.Dbr.bstr_eq (polyF (zeroK k 16) b) (List.take 16 (List.drop 16 k)), show ((polyF (zeroK k 16) b) == (List.take 16 (List.drop 16 k))) = true from (by rw [poly_zero n_k, List.take_of_length_le (by rw [List.length_drop]; omega)]; simp)] at En726
        refine h_pureR (d := some 76) En726 (v := .bool true) 21 (by kernel_rfl) (by kernel_rfl) rfl (fun _ => Hv718.pick [1, 2, 3, 4, 5] (by kernel_rfl) (by decide)) ?_
        intro ac727 En728
        refine h_pureR (d := some 10) En728 (v := .bool true) 22 (by kernel_rfl) (by kernel_rfl) rfl (fun _ => Hv718.pick [1, 2, 3, 4, 5] (by kernel_rfl) (by decide)) ?_
        intro ac729 En730
        exact h_end (by kernel_rfl) ⟨En730.sub (by kernel_rfl), Hv718.pick [0, 3, 4, 5] (by kernel_rfl) (by decide)⟩
      have nd731 : ∀ (ac : Act) (wo : World), Env ac 77 [(1, .int .u32 ((UInt32.toNat c : Nat) : Int)), (3, .slice a_b (List.length b) c_b), (5, .pointer (some ⟨bk1, 0, none⟩)), (7, .pointer (some ⟨bk6, 0, none⟩)), (10, .bool false), (12, .int .i64 ((bb : Nat) : Int)), (15, .pointer (some ⟨bk283, 0, none⟩)), (16, .int .i64 ((i : Nat) : Int)), (17, .pointer (some ⟨bk327, 0, none⟩)), (70, .bool true), (73, .slice (some ⟨bk1, 16, none⟩) 16 16)] → Ev w [] wo [.box bk283 (bys (zeroK k 16)) 22, .vec aoq238 coq238 1 (bys (streamF k (c + (UInt32.ofNat bb)) n (List.drop (64 * bb) b))) 5, .vec aoq110 coq110 1 (bys (streamF k c n (List.take (64 * bb) b))) 5, .box bk1 (bys k) 22, .box bk6 (bys n) 24, .box bk327 (bys (polyF (zeroK k 16) b)) 31] → G 6 #[true, true, true, true, true, true, true, true, true, true, true, true, true, true, true, true, false, false, true, false, false, false, false] ac wo := by
        intro ac732 wo733 En734 Hv735
        refine h_from hG ?_
        refine h_read (d := some 74) (s := nv (convert 25 9 (.slice (some ⟨bk1, 16, none⟩) 16 16))) En734 (v := .string (bstr (List.take 16 (List.drop 16 k)))) 19 (by kernel_rfl) (fun w hS => run_nv (run_str2 (e := 5) (bs := List.take 16 (List.drop 16 k)) (by first | (simp; done) | (simp; omega) | omega) (by kernel_rfl) (by kernel_rfl) (by kernel_rfl) (bys_box_reads (hS.heap.readsBox (k := 2) (m := 32) rfl (load_whole (bys_lenh n_k))) 16 16) (fun e => by cases e))) (by kernel_rfl) rfl (Hv735.pick [1, 2, 3, 4, 5] (by kernel_rfl) (by decide)) ?_
        intro ac736 En737
        refine h_at 16 (by kernel_rfl) rfl ?_
        refine op_slicearr (d := some 71) (t := 31) (e := 5) (sz := 1) (m := 16) (lo := 0) (hi := 16) (b := bk327) (off := 0) (lov := none) (hiv := none) (o := 0) En737 (by kernel_rfl) (by kernel_rfl) (by kernel_rfl) (by omega) (by omega) (by omega) (.inl ⟨rfl, rfl⟩) (.inl ⟨rfl, rfl⟩) (by omega) ?_
        intro ac738 En739
        refine ⟨fun _ => Hv735.pick [1, 2, 3, 4, 5] (by kernel_rfl) (by decide), ?_⟩
        refine h_read (d := some 72) (s := nv (convert 25 9 (.slice (some ⟨bk327, 0, none⟩) 16 16))) En739 (v := .string (bstr (polyF (zeroK k 16) b))) 17 (by kernel_rfl) (fun w hS => run_nv (run_str2 (e := 5) (bs := polyF (zeroK k 16) b) (by first | (simp; done) | (simp; omega) | omega) (by kernel_rfl) (by kernel_rfl) (by kernel_rfl) (hS.heap.readsBox (k := 4) (m := 16) rfl (load_whole (bys_lenh (polyF_len _ _)))) (fun e => by cases e))) (by kernel_rfl) rfl (Hv735.pick [1, 2, 3, 4, 5] (by kernel_rfl) (by decide)) ?_
        intro ac740 En741
        refine h_pureR (d := some 75) En741 (v := .bool (ByteArray.toList (bstr (polyF (zeroK k 16) b)) == ByteArray.toList (bstr (List.take 16 (List.drop 16 k))))) 20 (by kernel_rfl) (by kernel_rfl) rfl (fun _ => Hv735.pick [1, 2, 3, 4, 5] (by kernel_rfl) (by decide)) ?_
        intro ac742 En743
        rw [Go.Dbr.bstr_eq (polyF (zeroK k 16) b) (List.take 16 (List.drop 16 k)), show ((polyF (zeroK k 16) b) == (List.take 16 (List.drop 16 k))) = true from (by rw [poly_zero n_k, List.take_of_length_le (by rw [List.length_drop]; omega)]; simp)] at En743
        refine h_pureR (d := some 76) En743 (v := .bool true) 21 (by kernel_rfl) (by kernel_rfl) rfl (fun _ => Hv735.pick [1, 2, 3, 4, 5] (by kernel_rfl) (by decide)) ?_
        intro ac744 En745
        refine h_pureR (d := some 10) En745 (v := .bool true) 22 (by kernel_rfl) (by kernel_rfl) rfl (fun _ => Hv735.pick [1, 2, 3, 4, 5] (by kernel_rfl) (by decide)) ?_
        intro ac746 En747
        exact h_end (by kernel_rfl) ⟨En747.sub (by kernel_rfl), Hv735.pick [0, 3, 4, 5] (by kernel_rfl) (by decide)⟩
      refine h_from hG ?_
      refine h_pureR (d := some 55) En334 (v := .bool true) 0 (by kernel_rfl) (by kernel_rfl) rfl (fun _ => wo336.pick [1, 2, 3, 4, 5] (by kernel_rfl) (by decide)) ?_
      intro ac748 En749
      refine h_pureR (d := some 56) En749 (v := .bool true) 1 (by kernel_rfl) (by kernel_rfl) rfl (fun _ => wo336.pick [1, 2, 3, 4, 5] (by kernel_rfl) (by decide)) ?_
      intro ac750 En751
      refine h_read (d := some 57) (s := nv (Instr.loadAt 22 (.pointer (some ⟨bk1, 0, none⟩)))) En751 (v := .agg (List.toArray (bys k))) 2 (by kernel_rfl) (fun w hS => run_nv (run_loadAgg2 (m := 32) (cs := bys k) (bys_lenh n_k) (by kernel_rfl) (by kernel_rfl) (hS.heap.cells (k := 2) (off := 0) (m := 32) rfl (load_whole (bys_lenh n_k))))) (by kernel_rfl) rfl (wo336.pick [1, 2, 3, 4, 5] (by kernel_rfl) (by decide)) ?_
      intro ac752 En753
      refine h_pureR (d := some 58) En753 (v := .int .u32 ((UInt32.toNat c : Nat) : Int)) 3 (by kernel_rfl) (by kernel_rfl) rfl (fun _ => wo336.pick [1, 2, 3, 4, 5] (by kernel_rfl) (by decide)) ?_
      intro ac754 En755
      refine h_read (d := some 59) (s := nv (Instr.loadAt 24 (.pointer (some ⟨bk6, 0, none⟩)))) En755 (v := .agg (List.toArray (bys n))) 4 (by kernel_rfl) (fun w hS => run_nv (run_loadAgg2 (m := 12) (cs := bys n) (bys_lenh n_n) (by kernel_rfl) (by kernel_rfl) (hS.heap.cells (k := 3) (off := 0) (m := 12) rfl (load_whole (bys_lenh n_n))))) (by kernel_rfl) rfl (wo336.pick [1, 2, 3, 4, 5] (by kernel_rfl) (by decide)) ?_
      intro ac756 En757
      refine h_pureR (d := some 60) En757 (v := .slice a_b (List.length b) c_b) 5 (by kernel_rfl) (by kernel_rfl) rfl (fun _ => wo336.pick [1, 2, 3, 4, 5] (by kernel_rfl) (by decide)) ?_
      intro ac758 En759
      refine h_pureR (d := some 63) En759 (v := .slice aoq110 (List.length (streamF k c n (List.take (64 * bb) b))) coq110) 8 (by kernel_rfl) (by kernel_rfl) rfl (fun _ => wo336.pick [1, 2, 3, 4, 5] (by kernel_rfl) (by decide)) ?_
      intro ac760 En761
      refine h_read (d := some 64) (s := nv (convert 25 9 (.slice aoq110 (List.length (streamF k c n (List.take (64 * bb) b))) coq110))) En761 (v := .string (bstr (streamF k c n (List.take (64 * bb) b)))) 9 (by kernel_rfl) (fun w hS => run_nv (run_str2 (e := 5) (bs := streamF k c n (List.take (64 * bb) b)) rfl (by kernel_rfl) (by kernel_rfl) (by kernel_rfl) (hS.heap.reads (k := 1) rfl) (bys_vnz hS.heap (k := 1) rfl))) (by kernel_rfl) rfl (wo336.pick [1, 2, 3, 4, 5] (by kernel_rfl) (by decide)) ?_
      intro ac762 En763
      refine h_pureR (d := some 65) En763 (v := .slice aoq238 (List.length (streamF k (c + (UInt32.ofNat bb)) n (List.drop (64 * bb) b))) coq238) 10 (by kernel_rfl) (by kernel_rfl) rfl (fun _ => wo336.pick [1, 2, 3, 4, 5] (by kernel_rfl) (by decide)) ?_
      intro ac764 En765
      refine h_read (d := some 66) (s := nv (convert 25 9 (.slice aoq238 (List.length (streamF k (c + (UInt32.ofNat bb)) n (List.drop (64 * bb) b))) coq238))) En765 (v := .string (bstr (streamF k (c + (UInt32.ofNat bb)) n (List.drop (64 * bb) b)))) 11 (by kernel_rfl) (fun w hS => run_nv (run_str2 (e := 5) (bs := streamF k (c + (UInt32.ofNat bb)) n (List.drop (64 * bb) b)) rfl (by kernel_rfl) (by kernel_rfl) (by kernel_rfl) (hS.heap.reads (k := 0) rfl) (bys_vnz hS.heap (k := 0) rfl))) (by kernel_rfl) rfl (wo336.pick [1, 2, 3, 4, 5] (by kernel_rfl) (by decide)) ?_
      intro ac766 En767
      refine h_free (d := some 67) (s := nv (Op.stringOp .add (bstr (streamF k c n (List.take (64 * bb) b))) (bstr (streamF k (c + (UInt32.ofNat bb)) n (List.drop (64 * bb) b))))) En767 (v := .string (bstr ((streamF k c n (List.take (64 * bb) b)) ++ (streamF k (c + (UInt32.ofNat bb)) n (List.drop (64 * bb) b))))) 12 (by kernel_rfl) (fun _ => run_nv (Go.Dbr.run_add_str (streamF k c n (List.take (64 * bb) b)) (streamF k (c + (UInt32.ofNat bb)) n (List.drop (64 * bb) b)) (by first | (simp; done) | (simp; omega) | omega) _)) (by kernel_rfl) rfl (fun _ => wo336.pick [1, 2, 3, 4, 5] (by kernel_rfl) (by decide)) ?_
      intro ac768 En769
      refine h_at 6 (by kernel_rfl) rfl ?_
      have hM771 : Heap wo333.drew [] := wo336.heap.pick [] (by kernel_rfl) (by decide)
      refine op_call (d := some 61) (f := 9) (args := #[.agg (List.toArray (bys k)), .int .u32 ((UInt32.toNat c : Nat) : Int), .agg (List.toArray (bys n)), .slice a_b (List.length b) c_b]) En769 (by kernel_rfl) ((stream_go _ k n_k c n n_n a_b (List.length b) c_b b (by first | rfl | (simp; done) | (simp; omega) | omega) ((i_b.ev wo336).pick [] (by kernel_rfl))).mono ?_)
      rintro _ wo773 ⟨aoq770, coq770, rfl, he776⟩
      refine ⟨_, rfl, ?_⟩
      intro ac772 En774
      have Hv775 : Ev w [] wo773 [.vec aoq770 coq770 1 (bys (streamF k c n b)) 5, .box bk283 (bys (zeroK k 16)) 22, .vec aoq238 coq238 1 (bys (streamF k (c + (UInt32.ofNat bb)) n (List.drop (64 * bb) b))) 5, .vec aoq110 coq110 1 (bys (streamF k c n (List.take (64 * bb) b))) 5, .box bk1 (bys k) 22, .box bk6 (bys n) 24, .box bk327 (bys (polyF (zeroK k 16) b)) 31] := wo336.trans (Ev.call (R := [.box bk283 (bys (zeroK k 16)) 22, .vec aoq238 coq238 1 (bys (streamF k (c + (UInt32.ofNat bb)) n (List.drop (64 * bb) b))) 5, .vec aoq110 coq110 1 (bys (streamF k c n (List.take (64 * bb) b))) 5, .box bk1 (bys k) 22, .box bk6 (bys n) 24, .box bk327 (bys (polyF (zeroK k 16) b)) 31]) wo336.heap [0, 1, 2, 3, 4, 5] (by kernel_rfl) (by decide) he776)
      clear hM771 he776
      refine ⟨fun _ => Hv775.pick [2, 3, 4, 5, 6] (by kernel_rfl) (by decide), ?_⟩
      refine h_at 7 (by kernel_rfl) rfl ?_
      refine op_str (d := some 62) (src := 25) (dst := 9) (e := 5) (ao := aoq770) (cap := coq770) (p := List.length (streamF k c n b)) (bs := streamF k c n b) En774 (by kernel_rfl) rfl (by kernel_rfl) (by kernel_rfl) (by kernel_rfl) (Hv775.heap.reads (k := 0) rfl) (bys_vnz Hv775.heap (k := 0) rfl) ?_
      intro ac777 En778
      refine ⟨fun _ => Hv775.pick [2, 3, 4, 5, 6] (by kernel_rfl) (by decide), ?_⟩
      refine h_pureR (d := some 68) En778 (v := .bool (ByteArray.toList (bstr (streamF k c n b)) == ByteArray.toList (bstr ((streamF k c n (List.take (64 * bb) b)) ++ (streamF k (c + (UInt32.ofNat bb)) n (List.drop (64 * bb) b)))))) 13 (by kernel_rfl) (by kernel_rfl) rfl (fun _ => Hv775.pick [2, 3, 4, 5, 6] (by kernel_rfl) (by decide)) ?_
      intro ac779 En780
      rw [Go.Dbr.bstr_eq (streamF k c n b) ((streamF k c n (List.take (64 * bb) b)) ++ (streamF k (c + (UInt32.ofNat bb)) n (List.drop (64 * bb) b))), show ((streamF k c n b) == ((streamF k c n (List.take (64 * bb) b)) ++ (streamF k (c + (UInt32.ofNat bb)) n (List.drop (64 * bb) b)))) = true from (by rw [← stream_cut k c n b hbl]; simp)] at En780
      refine h_pureR (d := some 69) En780 (v := .bool true) 14 (by kernel_rfl) (by kernel_rfl) rfl (fun _ => Hv775.pick [2, 3, 4, 5, 6] (by kernel_rfl) (by decide)) ?_
      intro ac781 En782
      refine h_pureR (d := some 70) En782 (v := .bool true) 15 (by kernel_rfl) (by kernel_rfl) rfl (fun _ => Hv775.pick [2, 3, 4, 5, 6] (by kernel_rfl) (by decide)) ?_
      intro ac783 En784
      refine h_ways [16, 18] (by kernel_rfl) rfl ?_
      refine ⟨?_, ?_, trivial⟩
      · rintro _ rfl
        refine op_slicearr (d := some 71) (t := 31) (e := 5) (sz := 1) (m := 16) (lo := 0) (hi := 16) (b := bk327) (off := 0) (lov := none) (hiv := none) (o := 0) En784 (by kernel_rfl) (by kernel_rfl) (by kernel_rfl) (by omega) (by omega) (by omega) (.inl ⟨rfl, rfl⟩) (.inl ⟨rfl, rfl⟩) (by omega) ?_
        intro ac785 En786
        refine ⟨fun _ => Hv775.pick [2, 3, 4, 5, 6] (by kernel_rfl) (by decide), ?_⟩
        exact h_to hG (by kernel_rfl) (nd714 _ _ (En786.sub (by kernel_rfl)) (Hv775.pick [1, 2, 3, 4, 5, 6] (by kernel_rfl) (by decide)))
      · rintro _ rfl
        refine op_slicearr (d := some 73) (t := 22) (e := 5) (sz := 1) (m := 32) (lo := 16) (hi := 32) (b := bk1) (off := 0) (lov := (some (.int .i64 16))) (hiv := none) (o := 16) En784 (by kernel_rfl) (by kernel_rfl) (by kernel_rfl) (by omega) (by omega) (by omega) (.inr ⟨.i64, rfl⟩) (.inl ⟨rfl, rfl⟩) (by omega) ?_
        intro ac787 En788
        refine ⟨fun _ => Hv775.pick [2, 3, 4, 5, 6] (by kernel_rfl) (by decide), ?_⟩
        exact h_to hG (by kernel_rfl) (nd731 _ _ (En788.sub (by kernel_rfl)) (Hv775.pick [1, 2, 3, 4, 5, 6] (by kernel_rfl) (by decide)))
    rintro ac789 wo790 ⟨En791, Hv792⟩
    refine then_normal ?_
    refine wp_ret ?_
    refine d_ret1 (t := 10) (v := .bool true) En791 (by kernel_rfl) (by kernel_rfl) ?_
    exact ⟨rfl, Hv792.pick [] (by kernel_rfl) (by decide)⟩

end Go.Proofs.Ytnahplggflhdaaa
