/- Layer 9: a product modulo 2^130 - 5. -/
import Derived.Test.YtnahplggflhdaaaP1
namespace Go.Proofs.Ytnahplggflhdaaa
open Go.Dbr
set_option maxRecDepth 100000
set_option maxHeartbeats 2000000
set_option linter.unusedVariables false
set_option linter.unusedSimpArgs false

theorem top_add {t : List UInt64} (hl : t.length = 4) {x y : UInt64} (h : dv B64 t + UInt64.toNat x * UInt64.toNat y * 6277101735386680763835789423207666416102355444464034512896 < 115792089237316195423570985008687907853269984665640564039457584007913129639936) : dv B64 (List.set t 3 (List.getD t 3 0 + x * y)) = dv B64 t + UInt64.toNat x * UInt64.toNat y * 6277101735386680763835789423207666416102355444464034512896 := by
  match t, hl with
  | [a, b, c, d], _ =>
    have h1 := lt64 d
    simp only [List.set_cons_succ, List.set_cons_zero, dv, List.getD, List.getElem?_cons_zero, List.getElem?_cons_succ, Option.getD_some, UInt64.toNat_add, UInt64.toNat_mul] at h ⊢
    generalize x.toNat * y.toNat = z at *
    simp only [B64] at *
    omega
theorem prod_terms {l r : List UInt64} (hl : l.length = 3) (hr : r.length = 2) :
    (List.getD l 0 0).toNat * (List.getD r 0 0).toNat + 18446744073709551616 * ((List.getD l 0 0).toNat * (List.getD r 1 0).toNat) + 18446744073709551616 * ((List.getD l 1 0).toNat * (List.getD r 0 0).toNat) + 340282366920938463463374607431768211456 * ((List.getD l 1 0).toNat * (List.getD r 1 0).toNat) + 340282366920938463463374607431768211456 * ((List.getD l 2 0).toNat * (List.getD r 0 0).toNat) + 6277101735386680763835789423207666416102355444464034512896 * ((List.getD l 2 0).toNat * (List.getD r 1 0).toNat) = dv B64 l * dv B64 r := by
  match l, hl, r, hr with
  | [a, b, c], _, [x, y], _ =>
    simp only [dv, List.getD, List.getElem?_cons_zero, List.getElem?_cons_succ, Option.getD_some, Nat.mul_zero, Nat.add_zero]
    generalize a.toNat = a
    generalize b.toNat = b
    generalize c.toNat = c
    generalize x.toNat = x
    generalize y.toNat = y
    simp only [Nat.add_mul, Nat.mul_add, Nat.mul_assoc]
    simp only [Nat.mul_left_comm a B64, Nat.mul_left_comm b B64, Nat.mul_left_comm c B64]
    generalize a * x = p1
    generalize a * y = p2
    generalize b * x = p3
    generalize b * y = p4
    generalize c * x = p5
    generalize c * y = p6
    simp only [B64]
    omega
def finF (t : List UInt64) : List UInt64 :=
  plusF (plusF [List.getD t 0 0, List.getD t 1 0, List.getD t 2 0 &&& 3] (List.getD t 2 0 &&& ~~~ 3) (List.getD t 3 0) 0) (((List.getD t 2 0 &&& ~~~ 3) >>> UInt64.ofNat 2) ||| (List.getD t 3 0 <<< UInt64.ofNat 62)) (List.getD t 3 0 >>> UInt64.ofNat 2) 0
theorem and3 (x : UInt64) : (x &&& 3).toNat = x.toNat % 4 := by
  rw [UInt64.toNat_and]
  show x.toNat &&& 3 = _
  rw [show (3 : Nat) = 2 ^ 2 - 1 from rfl, Nat.and_two_pow_sub_one_eq_mod]
theorem andnot3 (x : UInt64) : (x &&& ~~~ (3 : UInt64)).toNat = 4 * (x.toNat / 4) := by
  have hx := x.toNat_lt
  show x.toNat &&& 18446744073709551612 = _
  have h1 : (x.toNat &&& 18446744073709551612) % 2 ^ 2 = 0 := by
    rw [Nat.and_mod_two_pow]
    exact Nat.and_zero _
  have h2 : (x.toNat &&& 18446744073709551612) / 2 ^ 2 = x.toNat / 4 := by
    rw [Nat.and_div_two_pow]
    show x.toNat / 4 &&& (2 ^ 62 - 1) = _
    rw [Nat.and_two_pow_sub_one_eq_mod]
    exact Nat.mod_eq_of_lt (by omega)
  omega
theorem shr2 (x : UInt64) : (x >>> UInt64.ofNat 2).toNat = x.toNat / 4 := by
  rw [UInt64.toNat_shiftRight]
  show x.toNat >>> (2 % 64) = _
  rw [Nat.shiftRight_eq_div_pow]
theorem or62 {u x : UInt64} (hu : u.toNat < 4611686018427387904) : (u ||| (x <<< UInt64.ofNat 62)).toNat = u.toNat + (x.toNat % 4) * 4611686018427387904 := by
  rw [UInt64.toNat_or, UInt64.toNat_shiftLeft]
  show u.toNat ||| (x.toNat <<< (62 % 64) % 2 ^ 64) = _
  have e : x.toNat <<< (62 % 64) % 2 ^ 64 = (x.toNat % 4) <<< 62 := by
    rw [Nat.shiftLeft_eq, Nat.shiftLeft_eq]
    have := lt64 x
    show x.toNat * 4611686018427387904 % 18446744073709551616 = x.toNat % 4 * 4611686018427387904
    omega
  rw [e, Nat.or_comm, ← Nat.shiftLeft_add_eq_or_of_lt (by simpa using hu), Nat.shiftLeft_eq]
  omega
theorem finF_val {t : List UInt64} (hl : t.length = 4) (h : dv B64 t < 115792089237316195423570985008687907853269984665640564039457584007913129639936) : dv B64 (finF t) < 2722258935367507707706996859454145691648 ∧ dv B64 (finF t) % 1361129467683753853853498429727072845819 = dv B64 t % 1361129467683753853853498429727072845819 := by
  match t, hl with
  | [a, b, c, d], _ =>
    have e1 : dv B64 [a, b, c &&& 3] = a.toNat + B64 * (b.toNat + B64 * (c.toNat % 4)) := by simp only [dv, and3, Nat.mul_zero, Nat.add_zero]
    have ha := lt64 a; have hb := lt64 b; have hc := lt64 c; have hd := lt64 d
    have e0 : (0 : UInt64).toNat = 0 := rfl
    have p1 := plusF_val (l := [a, b, c &&& 3]) rfl (c &&& ~~~ 3) d 0 (by rw [e1, andnot3, e0]; simp only [B64]; omega)
    have hu : ((c &&& ~~~ 3) >>> UInt64.ofNat 2).toNat = c.toNat / 4 := by rw [shr2, andnot3]; omega
    have ho := or62 (u := (c &&& ~~~ 3) >>> UInt64.ofNat 2) (x := d) (by rw [hu]; omega)
    have p2 := plusF_val (l := plusF [a, b, c &&& 3] (c &&& ~~~ 3) d 0) rfl (((c &&& ~~~ 3) >>> UInt64.ofNat 2) ||| (d <<< UInt64.ofNat 62)) (d >>> UInt64.ofNat 2) 0 (by rw [p1, e1, andnot3, ho, hu, shr2, e0]; simp only [B64]; omega)
    have ef : finF [a, b, c, d] = plusF (plusF [a, b, c &&& 3] (c &&& ~~~ 3) d 0) (((c &&& ~~~ 3) >>> UInt64.ofNat 2) ||| (d <<< UInt64.ofNat 62)) (d >>> UInt64.ofNat 2) 0 := rfl
    rw [ef, p2, p1, e1, andnot3, ho, hu, shr2, e0]
    simp only [dv, B64, Nat.mul_zero, Nat.add_zero] at h ⊢
    constructor
    · omega
    · omega

theorem times_go (w : World) (l : List UInt64) (hl : List.length l = 3) (r : List UInt64) (hr : List.length r = 2) (hb : dv B64 l < 5444517870735015415413993718908291383296) (hrb : dv B64 r < 21267647932558653966460912964485513216) : Calls Try.prog 27 #[.agg (List.toArray (u64s l)), .agg (List.toArray (u64s r))] w fun e w' => ∃ l', e = .returned (.agg (List.toArray (u64s l'))) ∧ Ev w [] w' [] ∧ List.length l' = 3 ∧ dv B64 l' < 2722258935367507707706996859454145691648 ∧ dv B64 l' % 1361129467683753853853498429727072845819 = dv B64 l * dv B64 r % 1361129467683753853853498429727072845819 := by
  have hpt := prod_terms hl hr
  have hlt : dv B64 l * dv B64 r < 115792089237316195423570985008687907853269984665640564039457584007913129639936 := Nat.lt_of_lt_of_le (Nat.mul_lt_mul_of_lt_of_le hb (Nat.le_of_lt hrb) (by decide)) (by decide)
  have hz4 : dv B64 (List.replicate 4 0) = 0 := dv_replicate _ _
  refine d_start [(0, .agg (List.toArray (u64s l))), (1, .agg (List.toArray (u64s r)))] 73 Go.Proofs.Try.func27 Go.Proofs.Try.ntmps27 rfl (by kernel_rfl) (by kernel_rfl) ?_
  intro act0 En0
  have Hv0 : Ev w [] w [] := Ev.refl (Heap.nil _)
  refine wp_seq ?_
  refine region_from ?_  -- region 0
  refine from_op (by kernel_rfl) ?_
  refine op_newbox (d := some 2) (T := 54) (v := .agg (List.toArray (u64s l))) (cs := u64s l) En0 (by kernel_rfl) rfl Hv0 ?_
  intro ac2 wo3 bk1 En4 Hv5
  refine from_op (by kernel_rfl) ?_
  refine op_newbox (d := some 3) (T := 52) (v := .agg (List.toArray (u64s r))) (cs := u64s r) En4 (by kernel_rfl) rfl Hv5 ?_
  intro ac7 wo8 bk6 En9 Hv10
  refine from_op (by kernel_rfl) ?_
  refine op_alloc (d := some 4) (T := 54) (x := .tuple #[]) (z := .agg (List.toArray (u64s (List.replicate 3 0)))) (cs := u64s (List.replicate 3 0)) En9 (by kernel_rfl) (by kernel_rfl) (by kernel_rfl) Hv10 ?_
  intro ac12 wo13 bk11 En14 Hv15
  refine from_end (by kernel_rfl) ?_
  refine then_normal ?_
  refine wp_seq ?_
  refine region_from ?_  -- region 1
  refine from_op (by kernel_rfl) ?_
  refine op_alloc (d := some 5) (T := 65) (x := .tuple #[]) (z := .agg (List.toArray (u64s (List.replicate 4 0)))) (cs := u64s (List.replicate 4 0)) En14 (by kernel_rfl) (by kernel_rfl) (by kernel_rfl) Hv15 ?_
  intro ac17 wo18 bk16 En19 Hv20
  refine from_end (by kernel_rfl) ?_
  refine then_normal ?_
  refine wp_seq ?_
  refine region_from ?_  -- region 2
  refine d_pures [(2, .pointer (some ⟨bk1, 0, none⟩)), (3, .pointer (some ⟨bk6, 0, none⟩)), (4, .pointer (some ⟨bk11, 0, none⟩)), (5, .pointer (some ⟨bk16, 0, none⟩)), (6, .func (.func 35) #[] #[.pointer (some ⟨bk16, 0, none⟩)])] [.func (.func 35) #[] #[.pointer (some ⟨bk16, 0, none⟩)], .func (.func 35) #[] #[.pointer (some ⟨bk16, 0, none⟩)]] 2 En19 (by kernel_rfl) (by kernel_rfl) rfl ?_
  intro ac21 En22
  refine from_end (by kernel_rfl) ?_
  refine then_normal ?_
  refine wp_seq ?_
  refine wp_seq ?_
  refine region_from ?_  -- region 3
  refine d_pures [(2, .pointer (some ⟨bk1, 0, none⟩)), (3, .pointer (some ⟨bk6, 0, none⟩)), (4, .pointer (some ⟨bk11, 0, none⟩)), (5, .pointer (some ⟨bk16, 0, none⟩)), (6, .func (.func 35) #[] #[.pointer (some ⟨bk16, 0, none⟩)]), (13, .int .i64 0)] [.int .i64 0] 1 En22 (by kernel_rfl) (by kernel_rfl) rfl ?_
  intro ac23 En24
  refine from_end (by kernel_rfl) ?_
  refine then_normal ?_
  refine wp_block ?_
  refine loop_enter ?_
  refine loop_once ?_
  refine wp_seq ?_
  refine region_from ?_  -- region 4
  refine d_pures [(2, .pointer (some ⟨bk1, 0, none⟩)), (3, .pointer (some ⟨bk6, 0, none⟩)), (4, .pointer (some ⟨bk11, 0, none⟩)), (5, .pointer (some ⟨bk16, 0, none⟩)), (6, .func (.func 35) #[] #[.pointer (some ⟨bk16, 0, none⟩)]), (13, .int .i64 0), (14, .bool true)] [.bool true] 1 En24 (by kernel_rfl) (by kernel_rfl) rfl ?_
  intro ac25 En26
  refine from_end (by kernel_rfl) ?_
  refine then_normal ?_
  refine wp_seq ?_
  refine cond_true En26 (t := true) (by kernel_rfl) rfl ?_
  refine wp_skip ?_
  refine then_normal ?_
  refine wp_seq ?_
  refine wp_block ?_
  refine wp_seq ?_
  refine region_from ?_  -- region 5
  refine d_pures [(2, .pointer (some ⟨bk1, 0, none⟩)), (3, .pointer (some ⟨bk6, 0, none⟩)), (4, .pointer (some ⟨bk11, 0, none⟩)), (5, .pointer (some ⟨bk16, 0, none⟩)), (6, .func (.func 35) #[] #[.pointer (some ⟨bk16, 0, none⟩)]), (7, .int .i64 0), (13, .int .i64 0)] [.int .i64 0, .int .i64 0] 2 En26 (by kernel_rfl) (by kernel_rfl) rfl ?_
  intro ac27 En28
  refine from_end (by kernel_rfl) ?_
  refine then_normal ?_
  refine wp_seq ?_
  refine region_from ?_  -- region 6
  refine d_pures [(2, .pointer (some ⟨bk1, 0, none⟩)), (3, .pointer (some ⟨bk6, 0, none⟩)), (4, .pointer (some ⟨bk11, 0, none⟩)), (5, .pointer (some ⟨bk16, 0, none⟩)), (6, .func (.func 35) #[] #[.pointer (some ⟨bk16, 0, none⟩)]), (7, .int .i64 0), (13, .int .i64 0), (16, .int .i64 0)] [.int .i64 0] 1 En28 (by kernel_rfl) (by kernel_rfl) rfl ?_
  intro ac29 En30
  refine from_end (by kernel_rfl) ?_
  refine then_normal ?_
  refine wp_block ?_
  refine loop_enter ?_
  refine loop_once ?_
  refine wp_seq ?_
  refine region_from ?_  -- region 7
  refine d_pures [(2, .pointer (some ⟨bk1, 0, none⟩)), (3, .pointer (some ⟨bk6, 0, none⟩)), (4, .pointer (some ⟨bk11, 0, none⟩)), (5, .pointer (some ⟨bk16, 0, none⟩)), (6, .func (.func 35) #[] #[.pointer (some ⟨bk16, 0, none⟩)]), (7, .int .i64 0), (13, .int .i64 0), (16, .int .i64 0), (17, .bool true)] [.bool true] 1 En30 (by kernel_rfl) (by kernel_rfl) rfl ?_
  intro ac31 En32
  refine from_end (by kernel_rfl) ?_
  refine then_normal ?_
  refine wp_seq ?_
  refine cond_true En32 (t := true) (by kernel_rfl) rfl ?_
  refine wp_skip ?_
  refine then_normal ?_
  refine wp_seq ?_
  refine wp_block ?_
  refine wp_seq ?_
  refine region_from ?_  -- region 8
  refine d_pures [(2, .pointer (some ⟨bk1, 0, none⟩)), (3, .pointer (some ⟨bk6, 0, none⟩)), (4, .pointer (some ⟨bk11, 0, none⟩)), (5, .pointer (some ⟨bk16, 0, none⟩)), (6, .func (.func 35) #[] #[.pointer (some ⟨bk16, 0, none⟩)]), (7, .int .i64 0), (8, .int .i64 0), (13, .int .i64 0), (16, .int .i64 0)] [.int .i64 0, .int .i64 0] 2 En32 (by kernel_rfl) (by kernel_rfl) rfl ?_
  intro ac33 En34
  refine from_end (by kernel_rfl) ?_
  refine then_normal ?_
  refine wp_seq ?_
  refine region_from ?_  -- region 9
  refine d_pures [(2, .pointer (some ⟨bk1, 0, none⟩)), (3, .pointer (some ⟨bk6, 0, none⟩)), (4, .pointer (some ⟨bk11, 0, none⟩)), (5, .pointer (some ⟨bk16, 0, none⟩)), (6, .func (.func 35) #[] #[.pointer (some ⟨bk16, 0, none⟩)]), (7, .int .i64 0), (8, .int .i64 0), (13, .int .i64 0), (16, .int .i64 0), (22, .bool true)] [.int .i64 0, .int .i64 0, .int .i64 0, .bool true] 4 En34 (by kernel_rfl) (by kernel_rfl) rfl ?_
  intro ac35 En36
  refine from_end (by kernel_rfl) ?_
  refine then_normal ?_
  refine cond_true En36 (t := true) (by kernel_rfl) rfl ?_
  refine region_cut (F := fun ac wo => ∃ (ltq60 : _), Env ac 73 [(2, .pointer (some ⟨bk1, 0, none⟩)), (3, .pointer (some ⟨bk6, 0, none⟩)), (4, .pointer (some ⟨bk11, 0, none⟩)), (5, .pointer (some ⟨bk16, 0, none⟩)), (6, .func (.func 35) #[] #[.pointer (some ⟨bk16, 0, none⟩)]), (7, .int .i64 0), (8, .int .i64 0), (13, .int .i64 0), (16, .int .i64 0)] ∧ Ev w [] wo [.box bk16 (u64s ltq60) 65, .box bk1 (u64s l) 54, .box bk6 (u64s r) 52, .box bk11 (u64s (List.replicate 3 0)) 54] ∧ (List.length ltq60 = 4) ∧ (dv B64 ltq60 = dv B64 (List.replicate 4 0) + UInt64.toNat (List.getD l 0 0) * UInt64.toNat (List.getD r 0 0) * 1)) ?_ ?_
  ·
    refine draw_any (by kernel_rfl) 11 (by kernel_rfl) ?_  -- region 10
    have wo37 := Hv20.trans (Ev.drew Hv20.heap)
    refine any_name fun G hG => ?_
    have nd80 : ∀ (ac : Act) (wo : World), Env ac 73 [(2, .pointer (some ⟨bk1, 0, none⟩)), (3, .pointer (some ⟨bk6, 0, none⟩)), (4, .pointer (some ⟨bk11, 0, none⟩)), (5, .pointer (some ⟨bk16, 0, none⟩)), (6, .func (.func 35) #[] #[.pointer (some ⟨bk16, 0, none⟩)]), (7, .int .i64 0), (8, .int .i64 0), (13, .int .i64 0), (16, .int .i64 0), (23, .func (.func 35) #[] #[.pointer (some ⟨bk16, 0, none⟩)]), (26, .int .i64 0), (29, .int .u64 ((UInt64.toNat (List.getD l 0 0) : Nat) : Int)), (31, .pointer (some ⟨bk6, 0, none⟩))] → Ev w [] wo [.box bk1 (u64s l) 54, .box bk6 (u64s r) 52, .box bk11 (u64s (List.replicate 3 0)) 54, .box bk16 (u64s (List.replicate 4 0)) 65] → G 2 #[true, true, true, true, true, true, true, true, true, false, false] ac wo := by
      intro ac81 wo82 En83 Hv84
      refine any_from hG ?_
      refine any_at 9 (by kernel_rfl) rfl ?_
      have hb85 : 0 < List.length r := by rw [hr]; omega
      refine op_loadbox (d := some 32) (t := 49) (b := bk6) (off := 0) (k := 1) (v := .int .u64 ((UInt64.toNat (List.getD r 0 0) : Nat) : Int)) En83 (by kernel_rfl) Hv84 rfl (u64s_getD hb85) (by kernel_rfl) ?_
      intro ac86 En87
      refine any_at 10 (by kernel_rfl) rfl ?_
      have hM89 : Heap wo82 [.box bk16 (u64s (List.replicate 4 0)) 65] := Hv84.heap.pick [3] (by kernel_rfl) (by decide)
      refine op_call (d := some 33) (f := 35) (args := #[.int .i64 0, .int .u64 ((UInt64.toNat (List.getD l 0 0) : Nat) : Int), .int .u64 ((UInt64.toNat (List.getD r 0 0) : Nat) : Int), .pointer (some ⟨bk16, 0, none⟩)]) En87 (by kernel_rfl) ((mac_go _ bk16 (List.replicate 4 0) (List.length_replicate) 0 1 rfl (List.getD l 0 0) (List.getD r 0 0) (by omega) (by omega) hM89).mono ?_)
      rintro _ wo91 ⟨ltq88, rfl, he94, hlq88, hvq88⟩
      refine ⟨_, rfl, ?_⟩
      intro ac90 En92
      have Hv93 : Ev w [] wo91 [.box bk16 (u64s ltq88) 65, .box bk1 (u64s l) 54, .box bk6 (u64s r) 52, .box bk11 (u64s (List.replicate 3 0)) 54] := Hv84.trans (Ev.call (R := [.box bk1 (u64s l) 54, .box bk6 (u64s r) 52, .box bk11 (u64s (List.replicate 3 0)) 54]) Hv84.heap [3, 0, 1, 2] (by kernel_rfl) (by decide) he94)
      clear hM89 he94
      exact any_end (by kernel_rfl) ⟨ltq88, En92.sub (by kernel_rfl), Hv93.pick [0, 1, 2, 3] (by kernel_rfl) (by decide), hlq88, hvq88⟩
    have nd95 : ∀ (ac : Act) (wo : World), Env ac 73 [(2, .pointer (some ⟨bk1, 0, none⟩)), (3, .pointer (some ⟨bk6, 0, none⟩)), (4, .pointer (some ⟨bk11, 0, none⟩)), (5, .pointer (some ⟨bk16, 0, none⟩)), (6, .func (.func 35) #[] #[.pointer (some ⟨bk16, 0, none⟩)]), (7, .int .i64 0), (8, .int .i64 0), (13, .int .i64 0), (16, .int .i64 0), (23, .func (.func 35) #[] #[.pointer (some ⟨bk16, 0, none⟩)]), (26, .int .i64 0), (28, .pointer (some ⟨bk1, 0, none⟩)), (32, .int .u64 ((UInt64.toNat (List.getD r 0 0) : Nat) : Int))] → Ev w [] wo [.box bk1 (u64s l) 54, .box bk6 (u64s r) 52, .box bk11 (u64s (List.replicate 3 0)) 54, .box bk16 (u64s (List.replicate 4 0)) 65] → G 2 #[true, true, true, true, true, true, false, true, true, true, false] ac wo := by
      intro ac96 wo97 En98 Hv99
      refine any_from hG ?_
      refine any_at 6 (by kernel_rfl) rfl ?_
      have hb100 : 0 < List.length l := by rw [hl]; omega
      refine op_loadbox (d := some 29) (t := 49) (b := bk1) (off := 0) (k := 0) (v := .int .u64 ((UInt64.toNat (List.getD l 0 0) : Nat) : Int)) En98 (by kernel_rfl) Hv99 rfl (u64s_getD hb100) (by kernel_rfl) ?_
      intro ac101 En102
      refine any_at 10 (by kernel_rfl) rfl ?_
      have hM104 : Heap wo97 [.box bk16 (u64s (List.replicate 4 0)) 65] := Hv99.heap.pick [3] (by kernel_rfl) (by decide)
      refine op_call (d := some 33) (f := 35) (args := #[.int .i64 0, .int .u64 ((UInt64.toNat (List.getD l 0 0) : Nat) : Int), .int .u64 ((UInt64.toNat (List.getD r 0 0) : Nat) : Int), .pointer (some ⟨bk16, 0, none⟩)]) En102 (by kernel_rfl) ((mac_go _ bk16 (List.replicate 4 0) (List.length_replicate) 0 1 rfl (List.getD l 0 0) (List.getD r 0 0) (by omega) (by omega) hM104).mono ?_)
      rintro _ wo106 ⟨ltq103, rfl, he109, hlq103, hvq103⟩
      refine ⟨_, rfl, ?_⟩
      intro ac105 En107
      have Hv108 : Ev w [] wo106 [.box bk16 (u64s ltq103) 65, .box bk1 (u64s l) 54, .box bk6 (u64s r) 52, .box bk11 (u64s (List.replicate 3 0)) 54] := Hv99.trans (Ev.call (R := [.box bk1 (u64s l) 54, .box bk6 (u64s r) 52, .box bk11 (u64s (List.replicate 3 0)) 54]) Hv99.heap [3, 0, 1, 2] (by kernel_rfl) (by decide) he109)
      clear hM104 he109
      exact any_end (by kernel_rfl) ⟨ltq103, En107.sub (by kernel_rfl), Hv108.pick [0, 1, 2, 3] (by kernel_rfl) (by decide), hlq103, hvq103⟩
    refine any_from hG ?_
    refine any_pureR (d := some 23) En36 (v := .func (.func 35) #[] #[.pointer (some ⟨bk16, 0, none⟩)]) 0 (by kernel_rfl) (by kernel_rfl) rfl ?_
    intro ac110 En111
    refine any_pureR (d := some 24) En111 (v := .int .i64 0) 1 (by kernel_rfl) (by kernel_rfl) rfl ?_
    intro ac112 En113
    refine any_pureR (d := some 25) En113 (v := .int .i64 0) 2 (by kernel_rfl) (by kernel_rfl) rfl ?_
    intro ac114 En115
    refine any_pureR (d := some 26) En115 (v := .int .i64 0) 3 (by kernel_rfl) (by kernel_rfl) rfl ?_
    intro ac116 En117
    refine any_pureR (d := some 27) En117 (v := .int .i64 0) 4 (by kernel_rfl) (by kernel_rfl) rfl ?_
    intro ac118 En119
    refine any_pure (d := some 28) (s := nv (Instr.indexAt 54 (.pointer (some ⟨bk1, 0, none⟩)) (.int .i64 0))) En119 (v := .pointer (some ⟨bk1, 0, none⟩)) 5 (by kernel_rfl) (funext fun _ => run_nv (Go.Dbr.run_indexarr (e := 49) (sz := 1) (m := 3) (j := 0) (o := 0) (by kernel_rfl) (by kernel_rfl) (by omega) (by omega) (by omega) _)) (by kernel_rfl) rfl ?_
    intro ac120 En121
    refine any_pureR (d := some 30) En121 (v := .int .i64 0) 7 (by kernel_rfl) (by kernel_rfl) rfl ?_
    intro ac122 En123
    refine any_pure (d := some 31) (s := nv (Instr.indexAt 52 (.pointer (some ⟨bk6, 0, none⟩)) (.int .i64 0))) En123 (v := .pointer (some ⟨bk6, 0, none⟩)) 8 (by kernel_rfl) (funext fun _ => run_nv (Go.Dbr.run_indexarr (e := 49) (sz := 1) (m := 2) (j := 0) (o := 0) (by kernel_rfl) (by kernel_rfl) (by omega) (by omega) (by omega) _)) (by kernel_rfl) rfl ?_
    intro ac124 En125
    refine any_two 6 9 (by kernel_rfl) ?_ ?_
    · rintro _ rfl
      have hb126 : 0 < List.length l := by rw [hl]; omega
      refine op_loadbox (d := some 29) (t := 49) (b := bk1) (off := 0) (k := 0) (v := .int .u64 ((UInt64.toNat (List.getD l 0 0) : Nat) : Int)) En125 (by kernel_rfl) wo37 rfl (u64s_getD hb126) (by kernel_rfl) ?_
      intro ac127 En128
      exact any_to hG (by kernel_rfl) (nd80 _ _ (En128.sub (by kernel_rfl)) (wo37.pick [0, 1, 2, 3] (by kernel_rfl) (by decide)))
    · rintro _ rfl
      have hb129 : 0 < List.length r := by rw [hr]; omega
      refine op_loadbox (d := some 32) (t := 49) (b := bk6) (off := 0) (k := 1) (v := .int .u64 ((UInt64.toNat (List.getD r 0 0) : Nat) : Int)) En125 (by kernel_rfl) wo37 rfl (u64s_getD hb129) (by kernel_rfl) ?_
      intro ac130 En131
      exact any_to hG (by kernel_rfl) (nd95 _ _ (En131.sub (by kernel_rfl)) (wo37.pick [0, 1, 2, 3] (by kernel_rfl) (by decide)))
  rintro ac132 wo133 ⟨ltq60, En134, Hv135, hlq60, hvq60⟩
  refine block_normal ?_
  refine then_normal ?_
  refine region_from ?_  -- region 12
  refine d_pures [(2, .pointer (some ⟨bk1, 0, none⟩)), (3, .pointer (some ⟨bk6, 0, none⟩)), (4, .pointer (some ⟨bk11, 0, none⟩)), (5, .pointer (some ⟨bk16, 0, none⟩)), (6, .func (.func 35) #[] #[.pointer (some ⟨bk16, 0, none⟩)]), (7, .int .i64 0), (8, .int .i64 0), (13, .int .i64 0), (16, .int .i64 1)] [.int .i64 1, .int .i64 1] 2 En134 (by kernel_rfl) (by kernel_rfl) rfl ?_
  intro ac136 En137
  refine from_end (by kernel_rfl) ?_
  refine then_normal ?_
  refine loop_once ?_
  refine wp_seq ?_
  refine region_from ?_  -- region 7
  refine d_pures [(2, .pointer (some ⟨bk1, 0, none⟩)), (3, .pointer (some ⟨bk6, 0, none⟩)), (4, .pointer (some ⟨bk11, 0, none⟩)), (5, .pointer (some ⟨bk16, 0, none⟩)), (6, .func (.func 35) #[] #[.pointer (some ⟨bk16, 0, none⟩)]), (7, .int .i64 0), (8, .int .i64 0), (13, .int .i64 0), (16, .int .i64 1), (17, .bool true)] [.bool true] 1 En137 (by kernel_rfl) (by kernel_rfl) rfl ?_
  intro ac138 En139
  refine from_end (by kernel_rfl) ?_
  refine then_normal ?_
  refine wp_seq ?_
  refine cond_true En139 (t := true) (by kernel_rfl) rfl ?_
  refine wp_skip ?_
  refine then_normal ?_
  refine wp_seq ?_
  refine wp_block ?_
  refine wp_seq ?_
  refine region_from ?_  -- region 8
  refine d_pures [(2, .pointer (some ⟨bk1, 0, none⟩)), (3, .pointer (some ⟨bk6, 0, none⟩)), (4, .pointer (some ⟨bk11, 0, none⟩)), (5, .pointer (some ⟨bk16, 0, none⟩)), (6, .func (.func 35) #[] #[.pointer (some ⟨bk16, 0, none⟩)]), (7, .int .i64 0), (8, .int .i64 1), (13, .int .i64 0), (16, .int .i64 1)] [.int .i64 1, .int .i64 1] 2 En139 (by kernel_rfl) (by kernel_rfl) rfl ?_
  intro ac140 En141
  refine from_end (by kernel_rfl) ?_
  refine then_normal ?_
  refine wp_seq ?_
  refine region_from ?_  -- region 9
  refine d_pures [(2, .pointer (some ⟨bk1, 0, none⟩)), (3, .pointer (some ⟨bk6, 0, none⟩)), (4, .pointer (some ⟨bk11, 0, none⟩)), (5, .pointer (some ⟨bk16, 0, none⟩)), (6, .func (.func 35) #[] #[.pointer (some ⟨bk16, 0, none⟩)]), (7, .int .i64 0), (8, .int .i64 1), (13, .int .i64 0), (16, .int .i64 1), (22, .bool true)] [.int .i64 0, .int .i64 1, .int .i64 1, .bool true] 4 En141 (by kernel_rfl) (by kernel_rfl) rfl ?_
  intro ac142 En143
  refine from_end (by kernel_rfl) ?_
  refine then_normal ?_
  refine cond_true En143 (t := true) (by kernel_rfl) rfl ?_
  refine region_cut (F := fun ac wo => ∃ (ltq167 : _), Env ac 73 [(2, .pointer (some ⟨bk1, 0, none⟩)), (3, .pointer (some ⟨bk6, 0, none⟩)), (4, .pointer (some ⟨bk11, 0, none⟩)), (5, .pointer (some ⟨bk16, 0, none⟩)), (6, .func (.func 35) #[] #[.pointer (some ⟨bk16, 0, none⟩)]), (7, .int .i64 0), (8, .int .i64 1), (13, .int .i64 0), (16, .int .i64 1)] ∧ Ev w [] wo [.box bk16 (u64s ltq167) 65, .box bk1 (u64s l) 54, .box bk6 (u64s r) 52, .box bk11 (u64s (List.replicate 3 0)) 54] ∧ (List.length ltq167 = 4) ∧ (dv B64 ltq167 = dv B64 ltq60 + UInt64.toNat (List.getD l 0 0) * UInt64.toNat (List.getD r 1 0) * 18446744073709551616)) ?_ ?_
  ·
    refine draw_any (by kernel_rfl) 11 (by kernel_rfl) ?_  -- region 10
    have wo144 := Hv135.trans (Ev.drew Hv135.heap)
    refine any_name fun G hG => ?_
    have nd187 : ∀ (ac : Act) (wo : World), Env ac 73 [(2, .pointer (some ⟨bk1, 0, none⟩)), (3, .pointer (some ⟨bk6, 0, none⟩)), (4, .pointer (some ⟨bk11, 0, none⟩)), (5, .pointer (some ⟨bk16, 0, none⟩)), (6, .func (.func 35) #[] #[.pointer (some ⟨bk16, 0, none⟩)]), (7, .int .i64 0), (8, .int .i64 1), (13, .int .i64 0), (16, .int .i64 1), (23, .func (.func 35) #[] #[.pointer (some ⟨bk16, 0, none⟩)]), (26, .int .i64 1), (29, .int .u64 ((UInt64.toNat (List.getD l 0 0) : Nat) : Int)), (31, .pointer (some ⟨bk6, 1, none⟩))] → Ev w [] wo [.box bk16 (u64s ltq60) 65, .box bk1 (u64s l) 54, .box bk6 (u64s r) 52, .box bk11 (u64s (List.replicate 3 0)) 54] → G 2 #[true, true, true, true, true, true, true, true, true, false, false] ac wo := by
      intro ac188 wo189 En190 Hv191
      refine any_from hG ?_
      refine any_at 9 (by kernel_rfl) rfl ?_
      have hb192 : 1 < List.length r := by rw [hr]; omega
      refine op_loadbox (d := some 32) (t := 49) (b := bk6) (off := 1) (k := 2) (v := .int .u64 ((UInt64.toNat (List.getD r 1 0) : Nat) : Int)) En190 (by kernel_rfl) Hv191 rfl (u64s_getD hb192) (by kernel_rfl) ?_
      intro ac193 En194
      refine any_at 10 (by kernel_rfl) rfl ?_
      have hM196 : Heap wo189 [.box bk16 (u64s ltq60) 65] := Hv191.heap.pick [0] (by kernel_rfl) (by decide)
      refine op_call (d := some 33) (f := 35) (args := #[.int .i64 1, .int .u64 ((UInt64.toNat (List.getD l 0 0) : Nat) : Int), .int .u64 ((UInt64.toNat (List.getD r 1 0) : Nat) : Int), .pointer (some ⟨bk16, 0, none⟩)]) En194 (by kernel_rfl) ((mac_go _ bk16 ltq60 hlq60 1 18446744073709551616 rfl (List.getD l 0 0) (List.getD r 1 0) (by omega) (by omega) hM196).mono ?_)
      rintro _ wo198 ⟨ltq195, rfl, he201, hlq195, hvq195⟩
      refine ⟨_, rfl, ?_⟩
      intro ac197 En199
      have Hv200 : Ev w [] wo198 [.box bk16 (u64s ltq195) 65, .box bk1 (u64s l) 54, .box bk6 (u64s r) 52, .box bk11 (u64s (List.replicate 3 0)) 54] := Hv191.trans (Ev.call (R := [.box bk1 (u64s l) 54, .box bk6 (u64s r) 52, .box bk11 (u64s (List.replicate 3 0)) 54]) Hv191.heap [0, 1, 2, 3] (by kernel_rfl) (by decide) he201)
      clear hM196 he201
      exact any_end (by kernel_rfl) ⟨ltq195, En199.sub (by kernel_rfl), Hv200.pick [0, 1, 2, 3] (by kernel_rfl) (by decide), hlq195, hvq195⟩
    have nd202 : ∀ (ac : Act) (wo : World), Env ac 73 [(2, .pointer (some ⟨bk1, 0, none⟩)), (3, .pointer (some ⟨bk6, 0, none⟩)), (4, .pointer (some ⟨bk11, 0, none⟩)), (5, .pointer (some ⟨bk16, 0, none⟩)), (6, .func (.func 35) #[] #[.pointer (some ⟨bk16, 0, none⟩)]), (7, .int .i64 0), (8, .int .i64 1), (13, .int .i64 0), (16, .int .i64 1), (23, .func (.func 35) #[] #[.pointer (some ⟨bk16, 0, none⟩)]), (26, .int .i64 1), (28, .pointer (some ⟨bk1, 0, none⟩)), (32, .int .u64 ((UInt64.toNat (List.getD r 1 0) : Nat) : Int))] → Ev w [] wo [.box bk16 (u64s ltq60) 65, .box bk1 (u64s l) 54, .box bk6 (u64s r) 52, .box bk11 (u64s (List.replicate 3 0)) 54] → G 2 #[true, true, true, true, true, true, false, true, true, true, false] ac wo := by
      intro ac203 wo204 En205 Hv206
      refine any_from hG ?_
      refine any_at 6 (by kernel_rfl) rfl ?_
      have hb207 : 0 < List.length l := by rw [hl]; omega
      refine op_loadbox (d := some 29) (t := 49) (b := bk1) (off := 0) (k := 1) (v := .int .u64 ((UInt64.toNat (List.getD l 0 0) : Nat) : Int)) En205 (by kernel_rfl) Hv206 rfl (u64s_getD hb207) (by kernel_rfl) ?_
      intro ac208 En209
      refine any_at 10 (by kernel_rfl) rfl ?_
      have hM211 : Heap wo204 [.box bk16 (u64s ltq60) 65] := Hv206.heap.pick [0] (by kernel_rfl) (by decide)
      refine op_call (d := some 33) (f := 35) (args := #[.int .i64 1, .int .u64 ((UInt64.toNat (List.getD l 0 0) : Nat) : Int), .int .u64 ((UInt64.toNat (List.getD r 1 0) : Nat) : Int), .pointer (some ⟨bk16, 0, none⟩)]) En209 (by kernel_rfl) ((mac_go _ bk16 ltq60 hlq60 1 18446744073709551616 rfl (List.getD l 0 0) (List.getD r 1 0) (by omega) (by omega) hM211).mono ?_)
      rintro _ wo213 ⟨ltq210, rfl, he216, hlq210, hvq210⟩
      refine ⟨_, rfl, ?_⟩
      intro ac212 En214
      have Hv215 : Ev w [] wo213 [.box bk16 (u64s ltq210) 65, .box bk1 (u64s l) 54, .box bk6 (u64s r) 52, .box bk11 (u64s (List.replicate 3 0)) 54] := Hv206.trans (Ev.call (R := [.box bk1 (u64s l) 54, .box bk6 (u64s r) 52, .box bk11 (u64s (List.replicate 3 0)) 54]) Hv206.heap [0, 1, 2, 3] (by kernel_rfl) (by decide) he216)
      clear hM211 he216
      exact any_end (by kernel_rfl) ⟨ltq210, En214.sub (by kernel_rfl), Hv215.pick [0, 1, 2, 3] (by kernel_rfl) (by decide), hlq210, hvq210⟩
    refine any_from hG ?_
    refine any_pureR (d := some 23) En143 (v := .func (.func 35) #[] #[.pointer (some ⟨bk16, 0, none⟩)]) 0 (by kernel_rfl) (by kernel_rfl) rfl ?_
    intro ac217 En218
    refine any_pureR (d := some 24) En218 (v := .int .i64 0) 1 (by kernel_rfl) (by kernel_rfl) rfl ?_
    intro ac219 En220
    refine any_pureR (d := some 25) En220 (v := .int .i64 1) 2 (by kernel_rfl) (by kernel_rfl) rfl ?_
    intro ac221 En222
    refine any_pureR (d := some 26) En222 (v := .int .i64 1) 3 (by kernel_rfl) (by kernel_rfl) rfl ?_
    intro ac223 En224
    refine any_pureR (d := some 27) En224 (v := .int .i64 0) 4 (by kernel_rfl) (by kernel_rfl) rfl ?_
    intro ac225 En226
    refine any_pure (d := some 28) (s := nv (Instr.indexAt 54 (.pointer (some ⟨bk1, 0, none⟩)) (.int .i64 0))) En226 (v := .pointer (some ⟨bk1, 0, none⟩)) 5 (by kernel_rfl) (funext fun _ => run_nv (Go.Dbr.run_indexarr (e := 49) (sz := 1) (m := 3) (j := 0) (o := 0) (by kernel_rfl) (by kernel_rfl) (by omega) (by omega) (by omega) _)) (by kernel_rfl) rfl ?_
    intro ac227 En228
    refine any_pureR (d := some 30) En228 (v := .int .i64 1) 7 (by kernel_rfl) (by kernel_rfl) rfl ?_
    intro ac229 En230
    refine any_pure (d := some 31) (s := nv (Instr.indexAt 52 (.pointer (some ⟨bk6, 0, none⟩)) (.int .i64 1))) En230 (v := .pointer (some ⟨bk6, 1, none⟩)) 8 (by kernel_rfl) (funext fun _ => run_nv (Go.Dbr.run_indexarr (e := 49) (sz := 1) (m := 2) (j := 1) (o := 1) (by kernel_rfl) (by kernel_rfl) (by omega) (by omega) (by omega) _)) (by kernel_rfl) rfl ?_
    intro ac231 En232
    refine any_two 6 9 (by kernel_rfl) ?_ ?_
    · rintro _ rfl
      have hb233 : 0 < List.length l := by rw [hl]; omega
      refine op_loadbox (d := some 29) (t := 49) (b := bk1) (off := 0) (k := 1) (v := .int .u64 ((UInt64.toNat (List.getD l 0 0) : Nat) : Int)) En232 (by kernel_rfl) wo144 rfl (u64s_getD hb233) (by kernel_rfl) ?_
      intro ac234 En235
      exact any_to hG (by kernel_rfl) (nd187 _ _ (En235.sub (by kernel_rfl)) (wo144.pick [0, 1, 2, 3] (by kernel_rfl) (by decide)))
    · rintro _ rfl
      have hb236 : 1 < List.length r := by rw [hr]; omega
      refine op_loadbox (d := some 32) (t := 49) (b := bk6) (off := 1) (k := 2) (v := .int .u64 ((UInt64.toNat (List.getD r 1 0) : Nat) : Int)) En232 (by kernel_rfl) wo144 rfl (u64s_getD hb236) (by kernel_rfl) ?_
      intro ac237 En238
      exact any_to hG (by kernel_rfl) (nd202 _ _ (En238.sub (by kernel_rfl)) (wo144.pick [0, 1, 2, 3] (by kernel_rfl) (by decide)))
  rintro ac239 wo240 ⟨ltq167, En241, Hv242, hlq167, hvq167⟩
  refine block_normal ?_
  refine then_normal ?_
  refine region_from ?_  -- region 12
  refine d_pures [(2, .pointer (some ⟨bk1, 0, none⟩)), (3, .pointer (some ⟨bk6, 0, none⟩)), (4, .pointer (some ⟨bk11, 0, none⟩)), (5, .pointer (some ⟨bk16, 0, none⟩)), (6, .func (.func 35) #[] #[.pointer (some ⟨bk16, 0, none⟩)]), (7, .int .i64 0), (8, .int .i64 1), (13, .int .i64 0), (16, .int .i64 2)] [.int .i64 2, .int .i64 2] 2 En241 (by kernel_rfl) (by kernel_rfl) rfl ?_
  intro ac243 En244
  refine from_end (by kernel_rfl) ?_
  refine then_normal ?_
  refine loop_once ?_
  refine wp_seq ?_
  refine region_from ?_  -- region 7
  refine d_pures [(2, .pointer (some ⟨bk1, 0, none⟩)), (3, .pointer (some ⟨bk6, 0, none⟩)), (4, .pointer (some ⟨bk11, 0, none⟩)), (5, .pointer (some ⟨bk16, 0, none⟩)), (6, .func (.func 35) #[] #[.pointer (some ⟨bk16, 0, none⟩)]), (7, .int .i64 0), (8, .int .i64 1), (13, .int .i64 0), (16, .int .i64 2), (17, .bool false)] [.bool false] 1 En244 (by kernel_rfl) (by kernel_rfl) rfl ?_
  intro ac245 En246
  refine from_end (by kernel_rfl) ?_
  refine then_normal ?_
  refine wp_seq ?_
  refine cond_false En246 (t := false) (by kernel_rfl) rfl ?_
  refine wp_exit ?_
  refine then_exit ?_
  refine then_exit ?_
  refine block_exit ?_
  refine block_normal ?_
  refine then_normal ?_
  refine region_from ?_  -- region 13
  refine d_pures [(2, .pointer (some ⟨bk1, 0, none⟩)), (3, .pointer (some ⟨bk6, 0, none⟩)), (4, .pointer (some ⟨bk11, 0, none⟩)), (5, .pointer (some ⟨bk16, 0, none⟩)), (6, .func (.func 35) #[] #[.pointer (some ⟨bk16, 0, none⟩)]), (7, .int .i64 0), (8, .int .i64 1), (13, .int .i64 1), (16, .int .i64 2)] [.int .i64 1, .int .i64 1] 2 En246 (by kernel_rfl) (by kernel_rfl) rfl ?_
  intro ac247 En248
  refine from_end (by kernel_rfl) ?_
  refine then_normal ?_
  refine loop_once ?_
  refine wp_seq ?_
  refine region_from ?_  -- region 4
  refine d_pures [(2, .pointer (some ⟨bk1, 0, none⟩)), (3, .pointer (some ⟨bk6, 0, none⟩)), (4, .pointer (some ⟨bk11, 0, none⟩)), (5, .pointer (some ⟨bk16, 0, none⟩)), (6, .func (.func 35) #[] #[.pointer (some ⟨bk16, 0, none⟩)]), (7, .int .i64 0), (8, .int .i64 1), (13, .int .i64 1), (14, .bool true), (16, .int .i64 2)] [.bool true] 1 En248 (by kernel_rfl) (by kernel_rfl) rfl ?_
  intro ac249 En250
  refine from_end (by kernel_rfl) ?_
  refine then_normal ?_
  refine wp_seq ?_
  refine cond_true En250 (t := true) (by kernel_rfl) rfl ?_
  refine wp_skip ?_
  refine then_normal ?_
  refine wp_seq ?_
  refine wp_block ?_
  refine wp_seq ?_
  refine region_from ?_  -- region 5
  refine d_pures [(2, .pointer (some ⟨bk1, 0, none⟩)), (3, .pointer (some ⟨bk6, 0, none⟩)), (4, .pointer (some ⟨bk11, 0, none⟩)), (5, .pointer (some ⟨bk16, 0, none⟩)), (6, .func (.func 35) #[] #[.pointer (some ⟨bk16, 0, none⟩)]), (7, .int .i64 1), (8, .int .i64 1), (13, .int .i64 1), (16, .int .i64 2)] [.int .i64 1, .int .i64 1] 2 En250 (by kernel_rfl) (by kernel_rfl) rfl ?_
  intro ac251 En252
  refine from_end (by kernel_rfl) ?_
  refine then_normal ?_
  refine wp_seq ?_
  refine region_from ?_  -- region 6
  refine d_pures [(2, .pointer (some ⟨bk1, 0, none⟩)), (3, .pointer (some ⟨bk6, 0, none⟩)), (4, .pointer (some ⟨bk11, 0, none⟩)), (5, .pointer (some ⟨bk16, 0, none⟩)), (6, .func (.func 35) #[] #[.pointer (some ⟨bk16, 0, none⟩)]), (7, .int .i64 1), (8, .int .i64 1), (13, .int .i64 1), (16, .int .i64 0)] [.int .i64 0] 1 En252 (by kernel_rfl) (by kernel_rfl) rfl ?_
  intro ac253 En254
  refine from_end (by kernel_rfl) ?_
  refine then_normal ?_
  refine wp_block ?_
  refine loop_enter ?_
  refine loop_once ?_
  refine wp_seq ?_
  refine region_from ?_  -- region 7
  refine d_pures [(2, .pointer (some ⟨bk1, 0, none⟩)), (3, .pointer (some ⟨bk6, 0, none⟩)), (4, .pointer (some ⟨bk11, 0, none⟩)), (5, .pointer (some ⟨bk16, 0, none⟩)), (6, .func (.func 35) #[] #[.pointer (some ⟨bk16, 0, none⟩)]), (7, .int .i64 1), (8, .int .i64 1), (13, .int .i64 1), (16, .int .i64 0), (17, .bool true)] [.bool true] 1 En254 (by kernel_rfl) (by kernel_rfl) rfl ?_
  intro ac255 En256
  refine from_end (by kernel_rfl) ?_
  refine then_normal ?_
  refine wp_seq ?_
  refine cond_true En256 (t := true) (by kernel_rfl) rfl ?_
  refine wp_skip ?_
  refine then_normal ?_
  refine wp_seq ?_
  refine wp_block ?_
  refine wp_seq ?_
  refine region_from ?_  -- region 8
  refine d_pures [(2, .pointer (some ⟨bk1, 0, none⟩)), (3, .pointer (some ⟨bk6, 0, none⟩)), (4, .pointer (some ⟨bk11, 0, none⟩)), (5, .pointer (some ⟨bk16, 0, none⟩)), (6, .func (.func 35) #[] #[.pointer (some ⟨bk16, 0, none⟩)]), (7, .int .i64 1), (8, .int .i64 0), (13, .int .i64 1), (16, .int .i64 0)] [.int .i64 0, .int .i64 0] 2 En256 (by kernel_rfl) (by kernel_rfl) rfl ?_
  intro ac257 En258
  refine from_end (by kernel_rfl) ?_
  refine then_normal ?_
  refine wp_seq ?_
  refine region_from ?_  -- region 9
  refine d_pures [(2, .pointer (some ⟨bk1, 0, none⟩)), (3, .pointer (some ⟨bk6, 0, none⟩)), (4, .pointer (some ⟨bk11, 0, none⟩)), (5, .pointer (some ⟨bk16, 0, none⟩)), (6, .func (.func 35) #[] #[.pointer (some ⟨bk16, 0, none⟩)]), (7, .int .i64 1), (8, .int .i64 0), (13, .int .i64 1), (16, .int .i64 0), (22, .bool true)] [.int .i64 1, .int .i64 0, .int .i64 1, .bool true] 4 En258 (by kernel_rfl) (by kernel_rfl) rfl ?_
  intro ac259 En260
  refine from_end (by kernel_rfl) ?_
  refine then_normal ?_
  refine cond_true En260 (t := true) (by kernel_rfl) rfl ?_
  refine region_cut (F := fun ac wo => ∃ (ltq284 : _), Env ac 73 [(2, .pointer (some ⟨bk1, 0, none⟩)), (3, .pointer (some ⟨bk6, 0, none⟩)), (4, .pointer (some ⟨bk11, 0, none⟩)), (5, .pointer (some ⟨bk16, 0, none⟩)), (6, .func (.func 35) #[] #[.pointer (some ⟨bk16, 0, none⟩)]), (7, .int .i64 1), (8, .int .i64 0), (13, .int .i64 1), (16, .int .i64 0)] ∧ Ev w [] wo [.box bk16 (u64s ltq284) 65, .box bk1 (u64s l) 54, .box bk6 (u64s r) 52, .box bk11 (u64s (List.replicate 3 0)) 54] ∧ (List.length ltq284 = 4) ∧ (dv B64 ltq284 = dv B64 ltq167 + UInt64.toNat (List.getD l 1 0) * UInt64.toNat (List.getD r 0 0) * 18446744073709551616)) ?_ ?_
  ·
    refine draw_any (by kernel_rfl) 11 (by kernel_rfl) ?_  -- region 10
    have wo261 := Hv242.trans (Ev.drew Hv242.heap)
    refine any_name fun G hG => ?_
    have nd304 : ∀ (ac : Act) (wo : World), Env ac 73 [(2, .pointer (some ⟨bk1, 0, none⟩)), (3, .pointer (some ⟨bk6, 0, none⟩)), (4, .pointer (some ⟨bk11, 0, none⟩)), (5, .pointer (some ⟨bk16, 0, none⟩)), (6, .func (.func 35) #[] #[.pointer (some ⟨bk16, 0, none⟩)]), (7, .int .i64 1), (8, .int .i64 0), (13, .int .i64 1), (16, .int .i64 0), (23, .func (.func 35) #[] #[.pointer (some ⟨bk16, 0, none⟩)]), (26, .int .i64 1), (29, .int .u64 ((UInt64.toNat (List.getD l 1 0) : Nat) : Int)), (31, .pointer (some ⟨bk6, 0, none⟩))] → Ev w [] wo [.box bk16 (u64s ltq167) 65, .box bk1 (u64s l) 54, .box bk6 (u64s r) 52, .box bk11 (u64s (List.replicate 3 0)) 54] → G 2 #[true, true, true, true, true, true, true, true, true, false, false] ac wo := by
      intro ac305 wo306 En307 Hv308
      refine any_from hG ?_
      refine any_at 9 (by kernel_rfl) rfl ?_
      have hb309 : 0 < List.length r := by rw [hr]; omega
      refine op_loadbox (d := some 32) (t := 49) (b := bk6) (off := 0) (k := 2) (v := .int .u64 ((UInt64.toNat (List.getD r 0 0) : Nat) : Int)) En307 (by kernel_rfl) Hv308 rfl (u64s_getD hb309) (by kernel_rfl) ?_
      intro ac310 En311
      refine any_at 10 (by kernel_rfl) rfl ?_
      have hM313 : Heap wo306 [.box bk16 (u64s ltq167) 65] := Hv308.heap.pick [0] (by kernel_rfl) (by decide)
      refine op_call (d := some 33) (f := 35) (args := #[.int .i64 1, .int .u64 ((UInt64.toNat (List.getD l 1 0) : Nat) : Int), .int .u64 ((UInt64.toNat (List.getD r 0 0) : Nat) : Int), .pointer (some ⟨bk16, 0, none⟩)]) En311 (by kernel_rfl) ((mac_go _ bk16 ltq167 hlq167 1 18446744073709551616 rfl (List.getD l 1 0) (List.getD r 0 0) (by omega) (by omega) hM313).mono ?_)
      rintro _ wo315 ⟨ltq312, rfl, he318, hlq312, hvq312⟩
      refine ⟨_, rfl, ?_⟩
      intro ac314 En316
      have Hv317 : Ev w [] wo315 [.box bk16 (u64s ltq312) 65, .box bk1 (u64s l) 54, .box bk6 (u64s r) 52, .box bk11 (u64s (List.replicate 3 0)) 54] := Hv308.trans (Ev.call (R := [.box bk1 (u64s l) 54, .box bk6 (u64s r) 52, .box bk11 (u64s (List.replicate 3 0)) 54]) Hv308.heap [0, 1, 2, 3] (by kernel_rfl) (by decide) he318)
      clear hM313 he318
      exact any_end (by kernel_rfl) ⟨ltq312, En316.sub (by kernel_rfl), Hv317.pick [0, 1, 2, 3] (by kernel_rfl) (by decide), hlq312, hvq312⟩
    have nd319 : ∀ (ac : Act) (wo : World), Env ac 73 [(2, .pointer (some ⟨bk1, 0, none⟩)), (3, .pointer (some ⟨bk6, 0, none⟩)), (4, .pointer (some ⟨bk11, 0, none⟩)), (5, .pointer (some ⟨bk16, 0, none⟩)), (6, .func (.func 35) #[] #[.pointer (some ⟨bk16, 0, none⟩)]), (7, .int .i64 1), (8, .int .i64 0), (13, .int .i64 1), (16, .int .i64 0), (23, .func (.func 35) #[] #[.pointer (some ⟨bk16, 0, none⟩)]), (26, .int .i64 1), (28, .pointer (some ⟨bk1, 1, none⟩)), (32, .int .u64 ((UInt64.toNat (List.getD r 0 0) : Nat) : Int))] → Ev w [] wo [.box bk16 (u64s ltq167) 65, .box bk1 (u64s l) 54, .box bk6 (u64s r) 52, .box bk11 (u64s (List.replicate 3 0)) 54] → G 2 #[true, true, true, true, true, true, false, true, true, true, false] ac wo := by
      intro ac320 wo321 En322 Hv323
      refine any_from hG ?_
      refine any_at 6 (by kernel_rfl) rfl ?_
      have hb324 : 1 < List.length l := by rw [hl]; omega
      refine op_loadbox (d := some 29) (t := 49) (b := bk1) (off := 1) (k := 1) (v := .int .u64 ((UInt64.toNat (List.getD l 1 0) : Nat) : Int)) En322 (by kernel_rfl) Hv323 rfl (u64s_getD hb324) (by kernel_rfl) ?_
      intro ac325 En326
      refine any_at 10 (by kernel_rfl) rfl ?_
      have hM328 : Heap wo321 [.box bk16 (u64s ltq167) 65] := Hv323.heap.pick [0] (by kernel_rfl) (by decide)
      refine op_call (d := some 33) (f := 35) (args := #[.int .i64 1, .int .u64 ((UInt64.toNat (List.getD l 1 0) : Nat) : Int), .int .u64 ((UInt64.toNat (List.getD r 0 0) : Nat) : Int), .pointer (some ⟨bk16, 0, none⟩)]) En326 (by kernel_rfl) ((mac_go _ bk16 ltq167 hlq167 1 18446744073709551616 rfl (List.getD l 1 0) (List.getD r 0 0) (by omega) (by omega) hM328).mono ?_)
      rintro _ wo330 ⟨ltq327, rfl, he333, hlq327, hvq327⟩
      refine ⟨_, rfl, ?_⟩
      intro ac329 En331
      have Hv332 : Ev w [] wo330 [.box bk16 (u64s ltq327) 65, .box bk1 (u64s l) 54, .box bk6 (u64s r) 52, .box bk11 (u64s (List.replicate 3 0)) 54] := Hv323.trans (Ev.call (R := [.box bk1 (u64s l) 54, .box bk6 (u64s r) 52, .box bk11 (u64s (List.replicate 3 0)) 54]) Hv323.heap [0, 1, 2, 3] (by kernel_rfl) (by decide) he333)
      clear hM328 he333
      exact any_end (by kernel_rfl) ⟨ltq327, En331.sub (by kernel_rfl), Hv332.pick [0, 1, 2, 3] (by kernel_rfl) (by decide), hlq327, hvq327⟩
    refine any_from hG ?_
    refine any_pureR (d := some 23) En260 (v := .func (.func 35) #[] #[.pointer (some ⟨bk16, 0, none⟩)]) 0 (by kernel_rfl) (by kernel_rfl) rfl ?_
    intro ac334 En335
    refine any_pureR (d := some 24) En335 (v := .int .i64 1) 1 (by kernel_rfl) (by kernel_rfl) rfl ?_
    intro ac336 En337
    refine any_pureR (d := some 25) En337 (v := .int .i64 0) 2 (by kernel_rfl) (by kernel_rfl) rfl ?_
    intro ac338 En339
    refine any_pureR (d := some 26) En339 (v := .int .i64 1) 3 (by kernel_rfl) (by kernel_rfl) rfl ?_
    intro ac340 En341
    refine any_pureR (d := some 27) En341 (v := .int .i64 1) 4 (by kernel_rfl) (by kernel_rfl) rfl ?_
    intro ac342 En343
    refine any_pure (d := some 28) (s := nv (Instr.indexAt 54 (.pointer (some ⟨bk1, 0, none⟩)) (.int .i64 1))) En343 (v := .pointer (some ⟨bk1, 1, none⟩)) 5 (by kernel_rfl) (funext fun _ => run_nv (Go.Dbr.run_indexarr (e := 49) (sz := 1) (m := 3) (j := 1) (o := 1) (by kernel_rfl) (by kernel_rfl) (by omega) (by omega) (by omega) _)) (by kernel_rfl) rfl ?_
    intro ac344 En345
    refine any_pureR (d := some 30) En345 (v := .int .i64 0) 7 (by kernel_rfl) (by kernel_rfl) rfl ?_
    intro ac346 En347
    refine any_pure (d := some 31) (s := nv (Instr.indexAt 52 (.pointer (some ⟨bk6, 0, none⟩)) (.int .i64 0))) En347 (v := .pointer (some ⟨bk6, 0, none⟩)) 8 (by kernel_rfl) (funext fun _ => run_nv (Go.Dbr.run_indexarr (e := 49) (sz := 1) (m := 2) (j := 0) (o := 0) (by kernel_rfl) (by kernel_rfl) (by omega) (by omega) (by omega) _)) (by kernel_rfl) rfl ?_
    intro ac348 En349
    refine any_two 6 9 (by kernel_rfl) ?_ ?_
    · rintro _ rfl
      have hb350 : 1 < List.length l := by rw [hl]; omega
      refine op_loadbox (d := some 29) (t := 49) (b := bk1) (off := 1) (k := 1) (v := .int .u64 ((UInt64.toNat (List.getD l 1 0) : Nat) : Int)) En349 (by kernel_rfl) wo261 rfl (u64s_getD hb350) (by kernel_rfl) ?_
      intro ac351 En352
      exact any_to hG (by kernel_rfl) (nd304 _ _ (En352.sub (by kernel_rfl)) (wo261.pick [0, 1, 2, 3] (by kernel_rfl) (by decide)))
    · rintro _ rfl
      have hb353 : 0 < List.length r := by rw [hr]; omega
      refine op_loadbox (d := some 32) (t := 49) (b := bk6) (off := 0) (k := 2) (v := .int .u64 ((UInt64.toNat (List.getD r 0 0) : Nat) : Int)) En349 (by kernel_rfl) wo261 rfl (u64s_getD hb353) (by kernel_rfl) ?_
      intro ac354 En355
      exact any_to hG (by kernel_rfl) (nd319 _ _ (En355.sub (by kernel_rfl)) (wo261.pick [0, 1, 2, 3] (by kernel_rfl) (by decide)))
  rintro ac356 wo357 ⟨ltq284, En358, Hv359, hlq284, hvq284⟩
  refine block_normal ?_
  refine then_normal ?_
  refine region_from ?_  -- region 12
  refine d_pures [(2, .pointer (some ⟨bk1, 0, none⟩)), (3, .pointer (some ⟨bk6, 0, none⟩)), (4, .pointer (some ⟨bk11, 0, none⟩)), (5, .pointer (some ⟨bk16, 0, none⟩)), (6, .func (.func 35) #[] #[.pointer (some ⟨bk16, 0, none⟩)]), (7, .int .i64 1), (8, .int .i64 0), (13, .int .i64 1), (16, .int .i64 1)] [.int .i64 1, .int .i64 1] 2 En358 (by kernel_rfl) (by kernel_rfl) rfl ?_
  intro ac360 En361
  refine from_end (by kernel_rfl) ?_
  refine then_normal ?_
  refine loop_once ?_
  refine wp_seq ?_
  refine region_from ?_  -- region 7
  refine d_pures [(2, .pointer (some ⟨bk1, 0, none⟩)), (3, .pointer (some ⟨bk6, 0, none⟩)), (4, .pointer (some ⟨bk11, 0, none⟩)), (5, .pointer (some ⟨bk16, 0, none⟩)), (6, .func (.func 35) #[] #[.pointer (some ⟨bk16, 0, none⟩)]), (7, .int .i64 1), (8, .int .i64 0), (13, .int .i64 1), (16, .int .i64 1), (17, .bool true)] [.bool true] 1 En361 (by kernel_rfl) (by kernel_rfl) rfl ?_
  intro ac362 En363
  refine from_end (by kernel_rfl) ?_
  refine then_normal ?_
  refine wp_seq ?_
  refine cond_true En363 (t := true) (by kernel_rfl) rfl ?_
  refine wp_skip ?_
  refine then_normal ?_
  refine wp_seq ?_
  refine wp_block ?_
  refine wp_seq ?_
  refine region_from ?_  -- region 8
  refine d_pures [(2, .pointer (some ⟨bk1, 0, none⟩)), (3, .pointer (some ⟨bk6, 0, none⟩)), (4, .pointer (some ⟨bk11, 0, none⟩)), (5, .pointer (some ⟨bk16, 0, none⟩)), (6, .func (.func 35) #[] #[.pointer (some ⟨bk16, 0, none⟩)]), (7, .int .i64 1), (8, .int .i64 1), (13, .int .i64 1), (16, .int .i64 1)] [.int .i64 1, .int .i64 1] 2 En363 (by kernel_rfl) (by kernel_rfl) rfl ?_
  intro ac364 En365
  refine from_end (by kernel_rfl) ?_
  refine then_normal ?_
  refine wp_seq ?_
  refine region_from ?_  -- region 9
  refine d_pures [(2, .pointer (some ⟨bk1, 0, none⟩)), (3, .pointer (some ⟨bk6, 0, none⟩)), (4, .pointer (some ⟨bk11, 0, none⟩)), (5, .pointer (some ⟨bk16, 0, none⟩)), (6, .func (.func 35) #[] #[.pointer (some ⟨bk16, 0, none⟩)]), (7, .int .i64 1), (8, .int .i64 1), (13, .int .i64 1), (16, .int .i64 1), (22, .bool true)] [.int .i64 1, .int .i64 1, .int .i64 2, .bool true] 4 En365 (by kernel_rfl) (by kernel_rfl) rfl ?_
  intro ac366 En367
  refine from_end (by kernel_rfl) ?_
  refine then_normal ?_
  refine cond_true En367 (t := true) (by kernel_rfl) rfl ?_
  refine region_cut (F := fun ac wo => ∃ (ltq391 : _), Env ac 73 [(2, .pointer (some ⟨bk1, 0, none⟩)), (3, .pointer (some ⟨bk6, 0, none⟩)), (4, .pointer (some ⟨bk11, 0, none⟩)), (5, .pointer (some ⟨bk16, 0, none⟩)), (6, .func (.func 35) #[] #[.pointer (some ⟨bk16, 0, none⟩)]), (7, .int .i64 1), (8, .int .i64 1), (13, .int .i64 1), (16, .int .i64 1)] ∧ Ev w [] wo [.box bk16 (u64s ltq391) 65, .box bk1 (u64s l) 54, .box bk6 (u64s r) 52, .box bk11 (u64s (List.replicate 3 0)) 54] ∧ (List.length ltq391 = 4) ∧ (dv B64 ltq391 = dv B64 ltq284 + UInt64.toNat (List.getD l 1 0) * UInt64.toNat (List.getD r 1 0) * 340282366920938463463374607431768211456)) ?_ ?_
  ·
    refine draw_any (by kernel_rfl) 11 (by kernel_rfl) ?_  -- region 10
    have wo368 := Hv359.trans (Ev.drew Hv359.heap)
    refine any_name fun G hG => ?_
    have nd411 : ∀ (ac : Act) (wo : World), Env ac 73 [(2, .pointer (some ⟨bk1, 0, none⟩)), (3, .pointer (some ⟨bk6, 0, none⟩)), (4, .pointer (some ⟨bk11, 0, none⟩)), (5, .pointer (some ⟨bk16, 0, none⟩)), (6, .func (.func 35) #[] #[.pointer (some ⟨bk16, 0, none⟩)]), (7, .int .i64 1), (8, .int .i64 1), (13, .int .i64 1), (16, .int .i64 1), (23, .func (.func 35) #[] #[.pointer (some ⟨bk16, 0, none⟩)]), (26, .int .i64 2), (29, .int .u64 ((UInt64.toNat (List.getD l 1 0) : Nat) : Int)), (31, .pointer (some ⟨bk6, 1, none⟩))] → Ev w [] wo [.box bk16 (u64s ltq284) 65, .box bk1 (u64s l) 54, .box bk6 (u64s r) 52, .box bk11 (u64s (List.replicate 3 0)) 54] → G 2 #[true, true, true, true, true, true, true, true, true, false, false] ac wo := by
      intro ac412 wo413 En414 Hv415
      refine any_from hG ?_
      refine any_at 9 (by kernel_rfl) rfl ?_
      have hb416 : 1 < List.length r := by rw [hr]; omega
      refine op_loadbox (d := some 32) (t := 49) (b := bk6) (off := 1) (k := 2) (v := .int .u64 ((UInt64.toNat (List.getD r 1 0) : Nat) : Int)) En414 (by kernel_rfl) Hv415 rfl (u64s_getD hb416) (by kernel_rfl) ?_
      intro ac417 En418
      refine any_at 10 (by kernel_rfl) rfl ?_
      have hM420 : Heap wo413 [.box bk16 (u64s ltq284) 65] := Hv415.heap.pick [0] (by kernel_rfl) (by decide)
      refine op_call (d := some 33) (f := 35) (args := #[.int .i64 2, .int .u64 ((UInt64.toNat (List.getD l 1 0) : Nat) : Int), .int .u64 ((UInt64.toNat (List.getD r 1 0) : Nat) : Int), .pointer (some ⟨bk16, 0, none⟩)]) En418 (by kernel_rfl) ((mac_go _ bk16 ltq284 hlq284 2 340282366920938463463374607431768211456 rfl (List.getD l 1 0) (List.getD r 1 0) (by omega) (by omega) hM420).mono ?_)
      rintro _ wo422 ⟨ltq419, rfl, he425, hlq419, hvq419⟩
      refine ⟨_, rfl, ?_⟩
      intro ac421 En423
      have Hv424 : Ev w [] wo422 [.box bk16 (u64s ltq419) 65, .box bk1 (u64s l) 54, .box bk6 (u64s r) 52, .box bk11 (u64s (List.replicate 3 0)) 54] := Hv415.trans (Ev.call (R := [.box bk1 (u64s l) 54, .box bk6 (u64s r) 52, .box bk11 (u64s (List.replicate 3 0)) 54]) Hv415.heap [0, 1, 2, 3] (by kernel_rfl) (by decide) he425)
      clear hM420 he425
      exact any_end (by kernel_rfl) ⟨ltq419, En423.sub (by kernel_rfl), Hv424.pick [0, 1, 2, 3] (by kernel_rfl) (by decide), hlq419, hvq419⟩
    have nd426 : ∀ (ac : Act) (wo : World), Env ac 73 [(2, .pointer (some ⟨bk1, 0, none⟩)), (3, .pointer (some ⟨bk6, 0, none⟩)), (4, .pointer (some ⟨bk11, 0, none⟩)), (5, .pointer (some ⟨bk16, 0, none⟩)), (6, .func (.func 35) #[] #[.pointer (some ⟨bk16, 0, none⟩)]), (7, .int .i64 1), (8, .int .i64 1), (13, .int .i64 1), (16, .int .i64 1), (23, .func (.func 35) #[] #[.pointer (some ⟨bk16, 0, none⟩)]), (26, .int .i64 2), (28, .pointer (some ⟨bk1, 1, none⟩)), (32, .int .u64 ((UInt64.toNat (List.getD r 1 0) : Nat) : Int))] → Ev w [] wo [.box bk16 (u64s ltq284) 65, .box bk1 (u64s l) 54, .box bk6 (u64s r) 52, .box bk11 (u64s (List.replicate 3 0)) 54] → G 2 #[true, true, true, true, true, true, false, true, true, true, false] ac wo := by
      intro ac427 wo428 En429 Hv430
      refine any_from hG ?_
      refine any_at 6 (by kernel_rfl) rfl ?_
      have hb431 : 1 < List.length l := by rw [hl]; omega
      refine op_loadbox (d := some 29) (t := 49) (b := bk1) (off := 1) (k := 1) (v := .int .u64 ((UInt64.toNat (List.getD l 1 0) : Nat) : Int)) En429 (by kernel_rfl) Hv430 rfl (u64s_getD hb431) (by kernel_rfl) ?_
      intro ac432 En433
      refine any_at 10 (by kernel_rfl) rfl ?_
      have hM435 : Heap wo428 [.box bk16 (u64s ltq284) 65] := Hv430.heap.pick [0] (by kernel_rfl) (by decide)
      refine op_call (d := some 33) (f := 35) (args := #[.int .i64 2, .int .u64 ((UInt64.toNat (List.getD l 1 0) : Nat) : Int), .int .u64 ((UInt64.toNat (List.getD r 1 0) : Nat) : Int), .pointer (some ⟨bk16, 0, none⟩)]) En433 (by kernel_rfl) ((mac_go _ bk16 ltq284 hlq284 2 340282366920938463463374607431768211456 rfl (List.getD l 1 0) (List.getD r 1 0) (by omega) (by omega) hM435).mono ?_)
      rintro _ wo437 ⟨ltq434, rfl, he440, hlq434, hvq434⟩
      refine ⟨_, rfl, ?_⟩
      intro ac436 En438
      have Hv439 : Ev w [] wo437 [.box bk16 (u64s ltq434) 65, .box bk1 (u64s l) 54, .box bk6 (u64s r) 52, .box bk11 (u64s (List.replicate 3 0)) 54] := Hv430.trans (Ev.call (R := [.box bk1 (u64s l) 54, .box bk6 (u64s r) 52, .box bk11 (u64s (List.replicate 3 0)) 54]) Hv430.heap [0, 1, 2, 3] (by kernel_rfl) (by decide) he440)
      clear hM435 he440
      exact any_end (by kernel_rfl) ⟨ltq434, En438.sub (by kernel_rfl), Hv439.pick [0, 1, 2, 3] (by kernel_rfl) (by decide), hlq434, hvq434⟩
    refine any_from hG ?_
    refine any_pureR (d := some 23) En367 (v := .func (.func 35) #[] #[.pointer (some ⟨bk16, 0, none⟩)]) 0 (by kernel_rfl) (by kernel_rfl) rfl ?_
    intro ac441 En442
    refine any_pureR (d := some 24) En442 (v := .int .i64 1) 1 (by kernel_rfl) (by kernel_rfl) rfl ?_
    intro ac443 En444
    refine any_pureR (d := some 25) En444 (v := .int .i64 1) 2 (by kernel_rfl) (by kernel_rfl) rfl ?_
    intro ac445 En446
    refine any_pureR (d := some 26) En446 (v := .int .i64 2) 3 (by kernel_rfl) (by kernel_rfl) rfl ?_
    intro ac447 En448
    refine any_pureR (d := some 27) En448 (v := .int .i64 1) 4 (by kernel_rfl) (by kernel_rfl) rfl ?_
    intro ac449 En450
    refine any_pure (d := some 28) (s := nv (Instr.indexAt 54 (.pointer (some ⟨bk1, 0, none⟩)) (.int .i64 1))) En450 (v := .pointer (some ⟨bk1, 1, none⟩)) 5 (by kernel_rfl) (funext fun _ => run_nv (Go.Dbr.run_indexarr (e := 49) (sz := 1) (m := 3) (j := 1) (o := 1) (by kernel_rfl) (by kernel_rfl) (by omega) (by omega) (by omega) _)) (by kernel_rfl) rfl ?_
    intro ac451 En452
    refine any_pureR (d := some 30) En452 (v := .int .i64 1) 7 (by kernel_rfl) (by kernel_rfl) rfl ?_
    intro ac453 En454
    refine any_pure (d := some 31) (s := nv (Instr.indexAt 52 (.pointer (some ⟨bk6, 0, none⟩)) (.int .i64 1))) En454 (v := .pointer (some ⟨bk6, 1, none⟩)) 8 (by kernel_rfl) (funext fun _ => run_nv (Go.Dbr.run_indexarr (e := 49) (sz := 1) (m := 2) (j := 1) (o := 1) (by kernel_rfl) (by kernel_rfl) (by omega) (by omega) (by omega) _)) (by kernel_rfl) rfl ?_
    intro ac455 En456
    refine any_two 6 9 (by kernel_rfl) ?_ ?_
    · rintro _ rfl
      have hb457 : 1 < List.length l := by rw [hl]; omega
      refine op_loadbox (d := some 29) (t := 49) (b := bk1) (off := 1) (k := 1) (v := .int .u64 ((UInt64.toNat (List.getD l 1 0) : Nat) : Int)) En456 (by kernel_rfl) wo368 rfl (u64s_getD hb457) (by kernel_rfl) ?_
      intro ac458 En459
      exact any_to hG (by kernel_rfl) (nd411 _ _ (En459.sub (by kernel_rfl)) (wo368.pick [0, 1, 2, 3] (by kernel_rfl) (by decide)))
    · rintro _ rfl
      have hb460 : 1 < List.length r := by rw [hr]; omega
      refine op_loadbox (d := some 32) (t := 49) (b := bk6) (off := 1) (k := 2) (v := .int .u64 ((UInt64.toNat (List.getD r 1 0) : Nat) : Int)) En456 (by kernel_rfl) wo368 rfl (u64s_getD hb460) (by kernel_rfl) ?_
      intro ac461 En462
      exact any_to hG (by kernel_rfl) (nd426 _ _ (En462.sub (by kernel_rfl)) (wo368.pick [0, 1, 2, 3] (by kernel_rfl) (by decide)))
  rintro ac463 wo464 ⟨ltq391, En465, Hv466, hlq391, hvq391⟩
  refine block_normal ?_
  refine then_normal ?_
  refine region_from ?_  -- region 12
  refine d_pures [(2, .pointer (some ⟨bk1, 0, none⟩)), (3, .pointer (some ⟨bk6, 0, none⟩)), (4, .pointer (some ⟨bk11, 0, none⟩)), (5, .pointer (some ⟨bk16, 0, none⟩)), (6, .func (.func 35) #[] #[.pointer (some ⟨bk16, 0, none⟩)]), (7, .int .i64 1), (8, .int .i64 1), (13, .int .i64 1), (16, .int .i64 2)] [.int .i64 2, .int .i64 2] 2 En465 (by kernel_rfl) (by kernel_rfl) rfl ?_
  intro ac467 En468
  refine from_end (by kernel_rfl) ?_
  refine then_normal ?_
  refine loop_once ?_
  refine wp_seq ?_
  refine region_from ?_  -- region 7
  refine d_pures [(2, .pointer (some ⟨bk1, 0, none⟩)), (3, .pointer (some ⟨bk6, 0, none⟩)), (4, .pointer (some ⟨bk11, 0, none⟩)), (5, .pointer (some ⟨bk16, 0, none⟩)), (6, .func (.func 35) #[] #[.pointer (some ⟨bk16, 0, none⟩)]), (7, .int .i64 1), (8, .int .i64 1), (13, .int .i64 1), (16, .int .i64 2), (17, .bool false)] [.bool false] 1 En468 (by kernel_rfl) (by kernel_rfl) rfl ?_
  intro ac469 En470
  refine from_end (by kernel_rfl) ?_
  refine then_normal ?_
  refine wp_seq ?_
  refine cond_false En470 (t := false) (by kernel_rfl) rfl ?_
  refine wp_exit ?_
  refine then_exit ?_
  refine then_exit ?_
  refine block_exit ?_
  refine block_normal ?_
  refine then_normal ?_
  refine region_from ?_  -- region 13
  refine d_pures [(2, .pointer (some ⟨bk1, 0, none⟩)), (3, .pointer (some ⟨bk6, 0, none⟩)), (4, .pointer (some ⟨bk11, 0, none⟩)), (5, .pointer (some ⟨bk16, 0, none⟩)), (6, .func (.func 35) #[] #[.pointer (some ⟨bk16, 0, none⟩)]), (7, .int .i64 1), (8, .int .i64 1), (13, .int .i64 2), (16, .int .i64 2)] [.int .i64 2, .int .i64 2] 2 En470 (by kernel_rfl) (by kernel_rfl) rfl ?_
  intro ac471 En472
  refine from_end (by kernel_rfl) ?_
  refine then_normal ?_
  refine loop_once ?_
  refine wp_seq ?_
  refine region_from ?_  -- region 4
  refine d_pures [(2, .pointer (some ⟨bk1, 0, none⟩)), (3, .pointer (some ⟨bk6, 0, none⟩)), (4, .pointer (some ⟨bk11, 0, none⟩)), (5, .pointer (some ⟨bk16, 0, none⟩)), (6, .func (.func 35) #[] #[.pointer (some ⟨bk16, 0, none⟩)]), (7, .int .i64 1), (8, .int .i64 1), (13, .int .i64 2), (14, .bool true), (16, .int .i64 2)] [.bool true] 1 En472 (by kernel_rfl) (by kernel_rfl) rfl ?_
  intro ac473 En474
  refine from_end (by kernel_rfl) ?_
  refine then_normal ?_
  refine wp_seq ?_
  refine cond_true En474 (t := true) (by kernel_rfl) rfl ?_
  refine wp_skip ?_
  refine then_normal ?_
  refine wp_seq ?_
  refine wp_block ?_
  refine wp_seq ?_
  refine region_from ?_  -- region 5
  refine d_pures [(2, .pointer (some ⟨bk1, 0, none⟩)), (3, .pointer (some ⟨bk6, 0, none⟩)), (4, .pointer (some ⟨bk11, 0, none⟩)), (5, .pointer (some ⟨bk16, 0, none⟩)), (6, .func (.func 35) #[] #[.pointer (some ⟨bk16, 0, none⟩)]), (7, .int .i64 2), (8, .int .i64 1), (13, .int .i64 2), (16, .int .i64 2)] [.int .i64 2, .int .i64 2] 2 En474 (by kernel_rfl) (by kernel_rfl) rfl ?_
  intro ac475 En476
  refine from_end (by kernel_rfl) ?_
  refine then_normal ?_
  refine wp_seq ?_
  refine region_from ?_  -- region 6
  refine d_pures [(2, .pointer (some ⟨bk1, 0, none⟩)), (3, .pointer (some ⟨bk6, 0, none⟩)), (4, .pointer (some ⟨bk11, 0, none⟩)), (5, .pointer (some ⟨bk16, 0, none⟩)), (6, .func (.func 35) #[] #[.pointer (some ⟨bk16, 0, none⟩)]), (7, .int .i64 2), (8, .int .i64 1), (13, .int .i64 2), (16, .int .i64 0)] [.int .i64 0] 1 En476 (by kernel_rfl) (by kernel_rfl) rfl ?_
  intro ac477 En478
  refine from_end (by kernel_rfl) ?_
  refine then_normal ?_
  refine wp_block ?_
  refine loop_enter ?_
  refine loop_once ?_
  refine wp_seq ?_
  refine region_from ?_  -- region 7
  refine d_pures [(2, .pointer (some ⟨bk1, 0, none⟩)), (3, .pointer (some ⟨bk6, 0, none⟩)), (4, .pointer (some ⟨bk11, 0, none⟩)), (5, .pointer (some ⟨bk16, 0, none⟩)), (6, .func (.func 35) #[] #[.pointer (some ⟨bk16, 0, none⟩)]), (7, .int .i64 2), (8, .int .i64 1), (13, .int .i64 2), (16, .int .i64 0), (17, .bool true)] [.bool true] 1 En478 (by kernel_rfl) (by kernel_rfl) rfl ?_
  intro ac479 En480
  refine from_end (by kernel_rfl) ?_
  refine then_normal ?_
  refine wp_seq ?_
  refine cond_true En480 (t := true) (by kernel_rfl) rfl ?_
  refine wp_skip ?_
  refine then_normal ?_
  refine wp_seq ?_
  refine wp_block ?_
  refine wp_seq ?_
  refine region_from ?_  -- region 8
  refine d_pures [(2, .pointer (some ⟨bk1, 0, none⟩)), (3, .pointer (some ⟨bk6, 0, none⟩)), (4, .pointer (some ⟨bk11, 0, none⟩)), (5, .pointer (some ⟨bk16, 0, none⟩)), (6, .func (.func 35) #[] #[.pointer (some ⟨bk16, 0, none⟩)]), (7, .int .i64 2), (8, .int .i64 0), (13, .int .i64 2), (16, .int .i64 0)] [.int .i64 0, .int .i64 0] 2 En480 (by kernel_rfl) (by kernel_rfl) rfl ?_
  intro ac481 En482
  refine from_end (by kernel_rfl) ?_
  refine then_normal ?_
  refine wp_seq ?_
  refine region_from ?_  -- region 9
  refine d_pures [(2, .pointer (some ⟨bk1, 0, none⟩)), (3, .pointer (some ⟨bk6, 0, none⟩)), (4, .pointer (some ⟨bk11, 0, none⟩)), (5, .pointer (some ⟨bk16, 0, none⟩)), (6, .func (.func 35) #[] #[.pointer (some ⟨bk16, 0, none⟩)]), (7, .int .i64 2), (8, .int .i64 0), (13, .int .i64 2), (16, .int .i64 0), (22, .bool true)] [.int .i64 2, .int .i64 0, .int .i64 2, .bool true] 4 En482 (by kernel_rfl) (by kernel_rfl) rfl ?_
  intro ac483 En484
  refine from_end (by kernel_rfl) ?_
  refine then_normal ?_
  refine cond_true En484 (t := true) (by kernel_rfl) rfl ?_
  refine region_cut (F := fun ac wo => ∃ (ltq508 : _), Env ac 73 [(2, .pointer (some ⟨bk1, 0, none⟩)), (3, .pointer (some ⟨bk6, 0, none⟩)), (4, .pointer (some ⟨bk11, 0, none⟩)), (5, .pointer (some ⟨bk16, 0, none⟩)), (6, .func (.func 35) #[] #[.pointer (some ⟨bk16, 0, none⟩)]), (7, .int .i64 2), (8, .int .i64 0), (13, .int .i64 2), (16, .int .i64 0)] ∧ Ev w [] wo [.box bk16 (u64s ltq508) 65, .box bk1 (u64s l) 54, .box bk6 (u64s r) 52, .box bk11 (u64s (List.replicate 3 0)) 54] ∧ (List.length ltq508 = 4) ∧ (dv B64 ltq508 = dv B64 ltq391 + UInt64.toNat (List.getD l 2 0) * UInt64.toNat (List.getD r 0 0) * 340282366920938463463374607431768211456)) ?_ ?_
  ·
    refine draw_any (by kernel_rfl) 11 (by kernel_rfl) ?_  -- region 10
    have wo485 := Hv466.trans (Ev.drew Hv466.heap)
    refine any_name fun G hG => ?_
    have nd528 : ∀ (ac : Act) (wo : World), Env ac 73 [(2, .pointer (some ⟨bk1, 0, none⟩)), (3, .pointer (some ⟨bk6, 0, none⟩)), (4, .pointer (some ⟨bk11, 0, none⟩)), (5, .pointer (some ⟨bk16, 0, none⟩)), (6, .func (.func 35) #[] #[.pointer (some ⟨bk16, 0, none⟩)]), (7, .int .i64 2), (8, .int .i64 0), (13, .int .i64 2), (16, .int .i64 0), (23, .func (.func 35) #[] #[.pointer (some ⟨bk16, 0, none⟩)]), (26, .int .i64 2), (29, .int .u64 ((UInt64.toNat (List.getD l 2 0) : Nat) : Int)), (31, .pointer (some ⟨bk6, 0, none⟩))] → Ev w [] wo [.box bk16 (u64s ltq391) 65, .box bk1 (u64s l) 54, .box bk6 (u64s r) 52, .box bk11 (u64s (List.replicate 3 0)) 54] → G 2 #[true, true, true, true, true, true, true, true, true, false, false] ac wo := by
      intro ac529 wo530 En531 Hv532
      refine any_from hG ?_
      refine any_at 9 (by kernel_rfl) rfl ?_
      have hb533 : 0 < List.length r := by rw [hr]; omega
      refine op_loadbox (d := some 32) (t := 49) (b := bk6) (off := 0) (k := 2) (v := .int .u64 ((UInt64.toNat (List.getD r 0 0) : Nat) : Int)) En531 (by kernel_rfl) Hv532 rfl (u64s_getD hb533) (by kernel_rfl) ?_
      intro ac534 En535
      refine any_at 10 (by kernel_rfl) rfl ?_
      have hM537 : Heap wo530 [.box bk16 (u64s ltq391) 65] := Hv532.heap.pick [0] (by kernel_rfl) (by decide)
      refine op_call (d := some 33) (f := 35) (args := #[.int .i64 2, .int .u64 ((UInt64.toNat (List.getD l 2 0) : Nat) : Int), .int .u64 ((UInt64.toNat (List.getD r 0 0) : Nat) : Int), .pointer (some ⟨bk16, 0, none⟩)]) En535 (by kernel_rfl) ((mac_go _ bk16 ltq391 hlq391 2 340282366920938463463374607431768211456 rfl (List.getD l 2 0) (List.getD r 0 0) (by omega) (by omega) hM537).mono ?_)
      rintro _ wo539 ⟨ltq536, rfl, he542, hlq536, hvq536⟩
      refine ⟨_, rfl, ?_⟩
      intro ac538 En540
      have Hv541 : Ev w [] wo539 [.box bk16 (u64s ltq536) 65, .box bk1 (u64s l) 54, .box bk6 (u64s r) 52, .box bk11 (u64s (List.replicate 3 0)) 54] := Hv532.trans (Ev.call (R := [.box bk1 (u64s l) 54, .box bk6 (u64s r) 52, .box bk11 (u64s (List.replicate 3 0)) 54]) Hv532.heap [0, 1, 2, 3] (by kernel_rfl) (by decide) he542)
      clear hM537 he542
      exact any_end (by kernel_rfl) ⟨ltq536, En540.sub (by kernel_rfl), Hv541.pick [0, 1, 2, 3] (by kernel_rfl) (by decide), hlq536, hvq536⟩
    have nd543 : ∀ (ac : Act) (wo : World), Env ac 73 [(2, .pointer (some ⟨bk1, 0, none⟩)), (3, .pointer (some ⟨bk6, 0, none⟩)), (4, .pointer (some ⟨bk11, 0, none⟩)), (5, .pointer (some ⟨bk16, 0, none⟩)), (6, .func (.func 35) #[] #[.pointer (some ⟨bk16, 0, none⟩)]), (7, .int .i64 2), (8, .int .i64 0), (13, .int .i64 2), (16, .int .i64 0), (23, .func (.func 35) #[] #[.pointer (some ⟨bk16, 0, none⟩)]), (26, .int .i64 2), (28, .pointer (some ⟨bk1, 2, none⟩)), (32, .int .u64 ((UInt64.toNat (List.getD r 0 0) : Nat) : Int))] → Ev w [] wo [.box bk16 (u64s ltq391) 65, .box bk1 (u64s l) 54, .box bk6 (u64s r) 52, .box bk11 (u64s (List.replicate 3 0)) 54] → G 2 #[true, true, true, true, true, true, false, true, true, true, false] ac wo := by
      intro ac544 wo545 En546 Hv547
      refine any_from hG ?_
      refine any_at 6 (by kernel_rfl) rfl ?_
      have hb548 : 2 < List.length l := by rw [hl]; omega
      refine op_loadbox (d := some 29) (t := 49) (b := bk1) (off := 2) (k := 1) (v := .int .u64 ((UInt64.toNat (List.getD l 2 0) : Nat) : Int)) En546 (by kernel_rfl) Hv547 rfl (u64s_getD hb548) (by kernel_rfl) ?_
      intro ac549 En550
      refine any_at 10 (by kernel_rfl) rfl ?_
      have hM552 : Heap wo545 [.box bk16 (u64s ltq391) 65] := Hv547.heap.pick [0] (by kernel_rfl) (by decide)
      refine op_call (d := some 33) (f := 35) (args := #[.int .i64 2, .int .u64 ((UInt64.toNat (List.getD l 2 0) : Nat) : Int), .int .u64 ((UInt64.toNat (List.getD r 0 0) : Nat) : Int), .pointer (some ⟨bk16, 0, none⟩)]) En550 (by kernel_rfl) ((mac_go _ bk16 ltq391 hlq391 2 340282366920938463463374607431768211456 rfl (List.getD l 2 0) (List.getD r 0 0) (by omega) (by omega) hM552).mono ?_)
      rintro _ wo554 ⟨ltq551, rfl, he557, hlq551, hvq551⟩
      refine ⟨_, rfl, ?_⟩
      intro ac553 En555
      have Hv556 : Ev w [] wo554 [.box bk16 (u64s ltq551) 65, .box bk1 (u64s l) 54, .box bk6 (u64s r) 52, .box bk11 (u64s (List.replicate 3 0)) 54] := Hv547.trans (Ev.call (R := [.box bk1 (u64s l) 54, .box bk6 (u64s r) 52, .box bk11 (u64s (List.replicate 3 0)) 54]) Hv547.heap [0, 1, 2, 3] (by kernel_rfl) (by decide) he557)
      clear hM552 he557
      exact any_end (by kernel_rfl) ⟨ltq551, En555.sub (by kernel_rfl), Hv556.pick [0, 1, 2, 3] (by kernel_rfl) (by decide), hlq551, hvq551⟩
    refine any_from hG ?_
    refine any_pureR (d := some 23) En484 (v := .func (.func 35) #[] #[.pointer (some ⟨bk16, 0, none⟩)]) 0 (by kernel_rfl) (by kernel_rfl) rfl ?_
    intro ac558 En559
    refine any_pureR (d := some 24) En559 (v := .int .i64 2) 1 (by kernel_rfl) (by kernel_rfl) rfl ?_
    intro ac560 En561
    refine any_pureR (d := some 25) En561 (v := .int .i64 0) 2 (by kernel_rfl) (by kernel_rfl) rfl ?_
    intro ac562 En563
    refine any_pureR (d := some 26) En563 (v := .int .i64 2) 3 (by kernel_rfl) (by kernel_rfl) rfl ?_
    intro ac564 En565
    refine any_pureR (d := some 27) En565 (v := .int .i64 2) 4 (by kernel_rfl) (by kernel_rfl) rfl ?_
    intro ac566 En567
    refine any_pure (d := some 28) (s := nv (Instr.indexAt 54 (.pointer (some ⟨bk1, 0, none⟩)) (.int .i64 2))) En567 (v := .pointer (some ⟨bk1, 2, none⟩)) 5 (by kernel_rfl) (funext fun _ => run_nv (Go.Dbr.run_indexarr (e := 49) (sz := 1) (m := 3) (j := 2) (o := 2) (by kernel_rfl) (by kernel_rfl) (by omega) (by omega) (by omega) _)) (by kernel_rfl) rfl ?_
    intro ac568 En569
    refine any_pureR (d := some 30) En569 (v := .int .i64 0) 7 (by kernel_rfl) (by kernel_rfl) rfl ?_
    intro ac570 En571
    refine any_pure (d := some 31) (s := nv (Instr.indexAt 52 (.pointer (some ⟨bk6, 0, none⟩)) (.int .i64 0))) En571 (v := .pointer (some ⟨bk6, 0, none⟩)) 8 (by kernel_rfl) (funext fun _ => run_nv (Go.Dbr.run_indexarr (e := 49) (sz := 1) (m := 2) (j := 0) (o := 0) (by kernel_rfl) (by kernel_rfl) (by omega) (by omega) (by omega) _)) (by kernel_rfl) rfl ?_
    intro ac572 En573
    refine any_two 6 9 (by kernel_rfl) ?_ ?_
    · rintro _ rfl
      have hb574 : 2 < List.length l := by rw [hl]; omega
      refine op_loadbox (d := some 29) (t := 49) (b := bk1) (off := 2) (k := 1) (v := .int .u64 ((UInt64.toNat (List.getD l 2 0) : Nat) : Int)) En573 (by kernel_rfl) wo485 rfl (u64s_getD hb574) (by kernel_rfl) ?_
      intro ac575 En576
      exact any_to hG (by kernel_rfl) (nd528 _ _ (En576.sub (by kernel_rfl)) (wo485.pick [0, 1, 2, 3] (by kernel_rfl) (by decide)))
    · rintro _ rfl
      have hb577 : 0 < List.length r := by rw [hr]; omega
      refine op_loadbox (d := some 32) (t := 49) (b := bk6) (off := 0) (k := 2) (v := .int .u64 ((UInt64.toNat (List.getD r 0 0) : Nat) : Int)) En573 (by kernel_rfl) wo485 rfl (u64s_getD hb577) (by kernel_rfl) ?_
      intro ac578 En579
      exact any_to hG (by kernel_rfl) (nd543 _ _ (En579.sub (by kernel_rfl)) (wo485.pick [0, 1, 2, 3] (by kernel_rfl) (by decide)))
  rintro ac580 wo581 ⟨ltq508, En582, Hv583, hlq508, hvq508⟩
  refine block_normal ?_
  refine then_normal ?_
  refine region_from ?_  -- region 12
  refine d_pures [(2, .pointer (some ⟨bk1, 0, none⟩)), (3, .pointer (some ⟨bk6, 0, none⟩)), (4, .pointer (some ⟨bk11, 0, none⟩)), (5, .pointer (some ⟨bk16, 0, none⟩)), (6, .func (.func 35) #[] #[.pointer (some ⟨bk16, 0, none⟩)]), (7, .int .i64 2), (8, .int .i64 0), (13, .int .i64 2), (16, .int .i64 1)] [.int .i64 1, .int .i64 1] 2 En582 (by kernel_rfl) (by kernel_rfl) rfl ?_
  intro ac584 En585
  refine from_end (by kernel_rfl) ?_
  refine then_normal ?_
  refine loop_once ?_
  refine wp_seq ?_
  refine region_from ?_  -- region 7
  refine d_pures [(2, .pointer (some ⟨bk1, 0, none⟩)), (3, .pointer (some ⟨bk6, 0, none⟩)), (4, .pointer (some ⟨bk11, 0, none⟩)), (5, .pointer (some ⟨bk16, 0, none⟩)), (6, .func (.func 35) #[] #[.pointer (some ⟨bk16, 0, none⟩)]), (7, .int .i64 2), (8, .int .i64 0), (13, .int .i64 2), (16, .int .i64 1), (17, .bool true)] [.bool true] 1 En585 (by kernel_rfl) (by kernel_rfl) rfl ?_
  intro ac586 En587
  refine from_end (by kernel_rfl) ?_
  refine then_normal ?_
  refine wp_seq ?_
  refine cond_true En587 (t := true) (by kernel_rfl) rfl ?_
  refine wp_skip ?_
  refine then_normal ?_
  refine wp_seq ?_
  refine wp_block ?_
  refine wp_seq ?_
  refine region_from ?_  -- region 8
  refine d_pures [(2, .pointer (some ⟨bk1, 0, none⟩)), (3, .pointer (some ⟨bk6, 0, none⟩)), (4, .pointer (some ⟨bk11, 0, none⟩)), (5, .pointer (some ⟨bk16, 0, none⟩)), (6, .func (.func 35) #[] #[.pointer (some ⟨bk16, 0, none⟩)]), (7, .int .i64 2), (8, .int .i64 1), (13, .int .i64 2), (16, .int .i64 1)] [.int .i64 1, .int .i64 1] 2 En587 (by kernel_rfl) (by kernel_rfl) rfl ?_
  intro ac588 En589
  refine from_end (by kernel_rfl) ?_
  refine then_normal ?_
  refine wp_seq ?_
  refine region_from ?_  -- region 9
  refine d_pures [(2, .pointer (some ⟨bk1, 0, none⟩)), (3, .pointer (some ⟨bk6, 0, none⟩)), (4, .pointer (some ⟨bk11, 0, none⟩)), (5, .pointer (some ⟨bk16, 0, none⟩)), (6, .func (.func 35) #[] #[.pointer (some ⟨bk16, 0, none⟩)]), (7, .int .i64 2), (8, .int .i64 1), (13, .int .i64 2), (16, .int .i64 1), (22, .bool false)] [.int .i64 2, .int .i64 1, .int .i64 3, .bool false] 4 En589 (by kernel_rfl) (by kernel_rfl) rfl ?_
  intro ac590 En591
  refine from_end (by kernel_rfl) ?_
  refine then_normal ?_
  refine cond_false En591 (t := false) (by kernel_rfl) rfl ?_
  refine region_cut (F := fun ac wo => Env ac 73 [(2, .pointer (some ⟨bk1, 0, none⟩)), (3, .pointer (some ⟨bk6, 0, none⟩)), (4, .pointer (some ⟨bk11, 0, none⟩)), (5, .pointer (some ⟨bk16, 0, none⟩)), (6, .func (.func 35) #[] #[.pointer (some ⟨bk16, 0, none⟩)]), (7, .int .i64 2), (8, .int .i64 1), (13, .int .i64 2), (16, .int .i64 1)] ∧ Ev w [] wo [.box bk16 (u64s (List.set ltq508 3 ((List.getD ltq508 3 0) + ((List.getD l 2 0) * (List.getD r 1 0))))) 65, .box bk1 (u64s l) 54, .box bk6 (u64s r) 52, .box bk11 (u64s (List.replicate 3 0)) 54]) ?_ ?_
  ·
    refine draw_any (by kernel_rfl) 12 (by kernel_rfl) ?_  -- region 11
    have wo592 := Hv583.trans (Ev.drew Hv583.heap)
    refine any_name fun G hG => ?_
    have nd672 : ∀ (ac : Act) (wo : World), Env ac 73 [(2, .pointer (some ⟨bk1, 0, none⟩)), (3, .pointer (some ⟨bk6, 0, none⟩)), (4, .pointer (some ⟨bk11, 0, none⟩)), (5, .pointer (some ⟨bk16, 0, none⟩)), (6, .func (.func 35) #[] #[.pointer (some ⟨bk16, 0, none⟩)]), (7, .int .i64 2), (8, .int .i64 1), (13, .int .i64 2), (16, .int .i64 1), (35, .int .u64 ((UInt64.toNat (List.getD ltq508 3 0) : Nat) : Int)), (38, .int .u64 ((UInt64.toNat (List.getD l 2 0) : Nat) : Int)), (40, .pointer (some ⟨bk6, 1, none⟩))] → Ev w [] wo [.box bk16 (u64s ltq508) 65, .box bk1 (u64s l) 54, .box bk6 (u64s r) 52, .box bk11 (u64s (List.replicate 3 0)) 54] → G 5 #[true, true, true, true, true, true, true, false, false, false, false, false] ac wo := by
      intro ac673 wo674 En675 Hv676
      refine any_from hG ?_
      refine any_at 7 (by kernel_rfl) rfl ?_
      have hb677 : 1 < List.length r := by rw [hr]; omega
      refine op_loadbox (d := some 41) (t := 49) (b := bk6) (off := 1) (k := 2) (v := .int .u64 ((UInt64.toNat (List.getD r 1 0) : Nat) : Int)) En675 (by kernel_rfl) Hv676 rfl (u64s_getD hb677) (by kernel_rfl) ?_
      intro ac678 En679
      refine any_pureR (d := some 42) En679 (v := .int .u64 (IntKind.wrap .u64 (((UInt64.toNat (List.getD l 2 0) : Nat) : Int) * ((UInt64.toNat (List.getD r 1 0) : Nat) : Int)))) 8 (by kernel_rfl) (by kernel_rfl) rfl ?_
      intro ac680 En681
      rw [Go.Dbr.u64_mul (a := ((UInt64.toNat (List.getD l 2 0) : Nat) : Int)) (b := ((UInt64.toNat (List.getD r 1 0) : Nat) : Int)) (x := List.getD l 2 0) (y := List.getD r 1 0) rfl rfl] at En681
      refine any_pureR (d := some 43) En681 (v := .int .u64 (IntKind.wrap .u64 (((UInt64.toNat (List.getD ltq508 3 0) : Nat) : Int) + ((UInt64.toNat ((List.getD l 2 0) * (List.getD r 1 0)) : Nat) : Int)))) 9 (by kernel_rfl) (by kernel_rfl) rfl ?_
      intro ac682 En683
      rw [Go.Dbr.u64_add (a := ((UInt64.toNat (List.getD ltq508 3 0) : Nat) : Int)) (b := ((UInt64.toNat ((List.getD l 2 0) * (List.getD r 1 0)) : Nat) : Int)) (x := List.getD ltq508 3 0) (y := (List.getD l 2 0) * (List.getD r 1 0)) rfl rfl] at En683
      refine any_pure (d := some 44) (s := nv (Instr.indexAt 65 (.pointer (some ⟨bk16, 0, none⟩)) (.int .i64 3))) En683 (v := .pointer (some ⟨bk16, 3, none⟩)) 10 (by kernel_rfl) (funext fun _ => run_nv (Go.Dbr.run_indexarr (e := 49) (sz := 1) (m := 4) (j := 3) (o := 3) (by kernel_rfl) (by kernel_rfl) (by omega) (by omega) (by omega) _)) (by kernel_rfl) rfl ?_
      intro ac684 En685
      refine any_at 11 (by kernel_rfl) rfl ?_
      have hb686 : 3 < List.length ltq508 := by rw [hlq508]; omega
      refine op_storebox2 (d := none) (t := 49) (b := bk16) (off := 3) (k := 0) (v := .int .u64 ((UInt64.toNat ((List.getD ltq508 3 0) + ((List.getD l 2 0) * (List.getD r 1 0))) : Nat) : Int)) En685 (by kernel_rfl) Hv676 rfl (u64s_getD hb686) (by kernel_rfl) rfl (u64s_set _ _ _) rfl ?_
      intro ac687 wo688  En689 Hv690
      exact any_end (by kernel_rfl) ⟨En689.sub (by kernel_rfl), Hv690.pick [0, 1, 2, 3] (by kernel_rfl) (by decide)⟩
    have nd691 : ∀ (ac : Act) (wo : World), Env ac 73 [(2, .pointer (some ⟨bk1, 0, none⟩)), (3, .pointer (some ⟨bk6, 0, none⟩)), (4, .pointer (some ⟨bk11, 0, none⟩)), (5, .pointer (some ⟨bk16, 0, none⟩)), (6, .func (.func 35) #[] #[.pointer (some ⟨bk16, 0, none⟩)]), (7, .int .i64 2), (8, .int .i64 1), (13, .int .i64 2), (16, .int .i64 1), (35, .int .u64 ((UInt64.toNat (List.getD ltq508 3 0) : Nat) : Int)), (37, .pointer (some ⟨bk1, 2, none⟩)), (41, .int .u64 ((UInt64.toNat (List.getD r 1 0) : Nat) : Int))] → Ev w [] wo [.box bk16 (u64s ltq508) 65, .box bk1 (u64s l) 54, .box bk6 (u64s r) 52, .box bk11 (u64s (List.replicate 3 0)) 54] → G 5 #[true, true, true, true, false, true, true, true, false, false, false, false] ac wo := by
      intro ac692 wo693 En694 Hv695
      refine any_from hG ?_
      refine any_at 4 (by kernel_rfl) rfl ?_
      have hb696 : 2 < List.length l := by rw [hl]; omega
      refine op_loadbox (d := some 38) (t := 49) (b := bk1) (off := 2) (k := 1) (v := .int .u64 ((UInt64.toNat (List.getD l 2 0) : Nat) : Int)) En694 (by kernel_rfl) Hv695 rfl (u64s_getD hb696) (by kernel_rfl) ?_
      intro ac697 En698
      refine any_pureR (d := some 42) En698 (v := .int .u64 (IntKind.wrap .u64 (((UInt64.toNat (List.getD l 2 0) : Nat) : Int) * ((UInt64.toNat (List.getD r 1 0) : Nat) : Int)))) 8 (by kernel_rfl) (by kernel_rfl) rfl ?_
      intro ac699 En700
      rw [Go.Dbr.u64_mul (a := ((UInt64.toNat (List.getD l 2 0) : Nat) : Int)) (b := ((UInt64.toNat (List.getD r 1 0) : Nat) : Int)) (x := List.getD l 2 0) (y := List.getD r 1 0) rfl rfl] at En700
      refine any_pureR (d := some 43) En700 (v := .int .u64 (IntKind.wrap .u64 (((UInt64.toNat (List.getD ltq508 3 0) : Nat) : Int) + ((UInt64.toNat ((List.getD l 2 0) * (List.getD r 1 0)) : Nat) : Int)))) 9 (by kernel_rfl) (by kernel_rfl) rfl ?_
      intro ac701 En702
      rw [Go.Dbr.u64_add (a := ((UInt64.toNat (List.getD ltq508 3 0) : Nat) : Int)) (b := ((UInt64.toNat ((List.getD l 2 0) * (List.getD r 1 0)) : Nat) : Int)) (x := List.getD ltq508 3 0) (y := (List.getD l 2 0) * (List.getD r 1 0)) rfl rfl] at En702
      refine any_pure (d := some 44) (s := nv (Instr.indexAt 65 (.pointer (some ⟨bk16, 0, none⟩)) (.int .i64 3))) En702 (v := .pointer (some ⟨bk16, 3, none⟩)) 10 (by kernel_rfl) (funext fun _ => run_nv (Go.Dbr.run_indexarr (e := 49) (sz := 1) (m := 4) (j := 3) (o := 3) (by kernel_rfl) (by kernel_rfl) (by omega) (by omega) (by omega) _)) (by kernel_rfl) rfl ?_
      intro ac703 En704
      refine any_at 11 (by kernel_rfl) rfl ?_
      have hb705 : 3 < List.length ltq508 := by rw [hlq508]; omega
      refine op_storebox2 (d := none) (t := 49) (b := bk16) (off := 3) (k := 0) (v := .int .u64 ((UInt64.toNat ((List.getD ltq508 3 0) + ((List.getD l 2 0) * (List.getD r 1 0))) : Nat) : Int)) En704 (by kernel_rfl) Hv695 rfl (u64s_getD hb705) (by kernel_rfl) rfl (u64s_set _ _ _) rfl ?_
      intro ac706 wo707  En708 Hv709
      exact any_end (by kernel_rfl) ⟨En708.sub (by kernel_rfl), Hv709.pick [0, 1, 2, 3] (by kernel_rfl) (by decide)⟩
    have nd710 : ∀ (ac : Act) (wo : World), Env ac 73 [(2, .pointer (some ⟨bk1, 0, none⟩)), (3, .pointer (some ⟨bk6, 0, none⟩)), (4, .pointer (some ⟨bk11, 0, none⟩)), (5, .pointer (some ⟨bk16, 0, none⟩)), (6, .func (.func 35) #[] #[.pointer (some ⟨bk16, 0, none⟩)]), (7, .int .i64 2), (8, .int .i64 1), (13, .int .i64 2), (16, .int .i64 1), (34, .pointer (some ⟨bk16, 3, none⟩)), (38, .int .u64 ((UInt64.toNat (List.getD l 2 0) : Nat) : Int)), (41, .int .u64 ((UInt64.toNat (List.getD r 1 0) : Nat) : Int))] → Ev w [] wo [.box bk16 (u64s ltq508) 65, .box bk1 (u64s l) 54, .box bk6 (u64s r) 52, .box bk11 (u64s (List.replicate 3 0)) 54] → G 5 #[true, false, true, true, true, true, true, true, false, false, false, false] ac wo := by
      intro ac711 wo712 En713 Hv714
      refine any_from hG ?_
      refine any_pureR (d := some 42) En713 (v := .int .u64 (IntKind.wrap .u64 (((UInt64.toNat (List.getD l 2 0) : Nat) : Int) * ((UInt64.toNat (List.getD r 1 0) : Nat) : Int)))) 8 (by kernel_rfl) (by kernel_rfl) rfl ?_
      intro ac715 En716
      rw [Go.Dbr.u64_mul (a := ((UInt64.toNat (List.getD l 2 0) : Nat) : Int)) (b := ((UInt64.toNat (List.getD r 1 0) : Nat) : Int)) (x := List.getD l 2 0) (y := List.getD r 1 0) rfl rfl] at En716
      refine any_at 1 (by kernel_rfl) rfl ?_
      have hb717 : 3 < List.length ltq508 := by rw [hlq508]; omega
      refine op_loadbox (d := some 35) (t := 49) (b := bk16) (off := 3) (k := 0) (v := .int .u64 ((UInt64.toNat (List.getD ltq508 3 0) : Nat) : Int)) En716 (by kernel_rfl) Hv714 rfl (u64s_getD hb717) (by kernel_rfl) ?_
      intro ac718 En719
      refine any_pureR (d := some 43) En719 (v := .int .u64 (IntKind.wrap .u64 (((UInt64.toNat (List.getD ltq508 3 0) : Nat) : Int) + ((UInt64.toNat ((List.getD l 2 0) * (List.getD r 1 0)) : Nat) : Int)))) 9 (by kernel_rfl) (by kernel_rfl) rfl ?_
      intro ac720 En721
      rw [Go.Dbr.u64_add (a := ((UInt64.toNat (List.getD ltq508 3 0) : Nat) : Int)) (b := ((UInt64.toNat ((List.getD l 2 0) * (List.getD r 1 0)) : Nat) : Int)) (x := List.getD ltq508 3 0) (y := (List.getD l 2 0) * (List.getD r 1 0)) rfl rfl] at En721
      refine any_pure (d := some 44) (s := nv (Instr.indexAt 65 (.pointer (some ⟨bk16, 0, none⟩)) (.int .i64 3))) En721 (v := .pointer (some ⟨bk16, 3, none⟩)) 10 (by kernel_rfl) (funext fun _ => run_nv (Go.Dbr.run_indexarr (e := 49) (sz := 1) (m := 4) (j := 3) (o := 3) (by kernel_rfl) (by kernel_rfl) (by omega) (by omega) (by omega) _)) (by kernel_rfl) rfl ?_
      intro ac722 En723
      refine any_at 11 (by kernel_rfl) rfl ?_
      have hb724 : 3 < List.length ltq508 := by rw [hlq508]; omega
      refine op_storebox2 (d := none) (t := 49) (b := bk16) (off := 3) (k := 0) (v := .int .u64 ((UInt64.toNat ((List.getD ltq508 3 0) + ((List.getD l 2 0) * (List.getD r 1 0))) : Nat) : Int)) En723 (by kernel_rfl) Hv714 rfl (u64s_getD hb724) (by kernel_rfl) rfl (u64s_set _ _ _) rfl ?_
      intro ac725 wo726  En727 Hv728
      exact any_end (by kernel_rfl) ⟨En727.sub (by kernel_rfl), Hv728.pick [0, 1, 2, 3] (by kernel_rfl) (by decide)⟩
    have nd729 : ∀ (ac : Act) (wo : World), Env ac 73 [(2, .pointer (some ⟨bk1, 0, none⟩)), (3, .pointer (some ⟨bk6, 0, none⟩)), (4, .pointer (some ⟨bk11, 0, none⟩)), (5, .pointer (some ⟨bk16, 0, none⟩)), (6, .func (.func 35) #[] #[.pointer (some ⟨bk16, 0, none⟩)]), (7, .int .i64 2), (8, .int .i64 1), (13, .int .i64 2), (16, .int .i64 1), (35, .int .u64 ((UInt64.toNat (List.getD ltq508 3 0) : Nat) : Int)), (37, .pointer (some ⟨bk1, 2, none⟩)), (40, .pointer (some ⟨bk6, 1, none⟩))] → Ev w [] wo [.box bk16 (u64s ltq508) 65, .box bk1 (u64s l) 54, .box bk6 (u64s r) 52, .box bk11 (u64s (List.replicate 3 0)) 54] → G 6 #[true, true, true, true, false, true, true, false, false, false, false, false] ac wo := by
      intro ac730 wo731 En732 Hv733
      refine any_from hG ?_
      refine any_two 4 7 (by kernel_rfl) ?_ ?_
      · rintro _ rfl
        have hb734 : 2 < List.length l := by rw [hl]; omega
        refine op_loadbox (d := some 38) (t := 49) (b := bk1) (off := 2) (k := 1) (v := .int .u64 ((UInt64.toNat (List.getD l 2 0) : Nat) : Int)) En732 (by kernel_rfl) Hv733 rfl (u64s_getD hb734) (by kernel_rfl) ?_
        intro ac735 En736
        exact any_to hG (by kernel_rfl) (nd672 _ _ (En736.sub (by kernel_rfl)) (Hv733.pick [0, 1, 2, 3] (by kernel_rfl) (by decide)))
      · rintro _ rfl
        have hb737 : 1 < List.length r := by rw [hr]; omega
        refine op_loadbox (d := some 41) (t := 49) (b := bk6) (off := 1) (k := 2) (v := .int .u64 ((UInt64.toNat (List.getD r 1 0) : Nat) : Int)) En732 (by kernel_rfl) Hv733 rfl (u64s_getD hb737) (by kernel_rfl) ?_
        intro ac738 En739
        exact any_to hG (by kernel_rfl) (nd691 _ _ (En739.sub (by kernel_rfl)) (Hv733.pick [0, 1, 2, 3] (by kernel_rfl) (by decide)))
    have nd740 : ∀ (ac : Act) (wo : World), Env ac 73 [(2, .pointer (some ⟨bk1, 0, none⟩)), (3, .pointer (some ⟨bk6, 0, none⟩)), (4, .pointer (some ⟨bk11, 0, none⟩)), (5, .pointer (some ⟨bk16, 0, none⟩)), (6, .func (.func 35) #[] #[.pointer (some ⟨bk16, 0, none⟩)]), (7, .int .i64 2), (8, .int .i64 1), (13, .int .i64 2), (16, .int .i64 1), (34, .pointer (some ⟨bk16, 3, none⟩)), (38, .int .u64 ((UInt64.toNat (List.getD l 2 0) : Nat) : Int)), (40, .pointer (some ⟨bk6, 1, none⟩))] → Ev w [] wo [.box bk16 (u64s ltq508) 65, .box bk1 (u64s l) 54, .box bk6 (u64s r) 52, .box bk11 (u64s (List.replicate 3 0)) 54] → G 6 #[true, false, true, true, true, true, true, false, false, false, false, false] ac wo := by
      intro ac741 wo742 En743 Hv744
      refine any_from hG ?_
      refine any_two 1 7 (by kernel_rfl) ?_ ?_
      · rintro _ rfl
        have hb745 : 3 < List.length ltq508 := by rw [hlq508]; omega
        refine op_loadbox (d := some 35) (t := 49) (b := bk16) (off := 3) (k := 0) (v := .int .u64 ((UInt64.toNat (List.getD ltq508 3 0) : Nat) : Int)) En743 (by kernel_rfl) Hv744 rfl (u64s_getD hb745) (by kernel_rfl) ?_
        intro ac746 En747
        exact any_to hG (by kernel_rfl) (nd672 _ _ (En747.sub (by kernel_rfl)) (Hv744.pick [0, 1, 2, 3] (by kernel_rfl) (by decide)))
      · rintro _ rfl
        have hb748 : 1 < List.length r := by rw [hr]; omega
        refine op_loadbox (d := some 41) (t := 49) (b := bk6) (off := 1) (k := 2) (v := .int .u64 ((UInt64.toNat (List.getD r 1 0) : Nat) : Int)) En743 (by kernel_rfl) Hv744 rfl (u64s_getD hb748) (by kernel_rfl) ?_
        intro ac749 En750
        exact any_to hG (by kernel_rfl) (nd710 _ _ (En750.sub (by kernel_rfl)) (Hv744.pick [0, 1, 2, 3] (by kernel_rfl) (by decide)))
    have nd751 : ∀ (ac : Act) (wo : World), Env ac 73 [(2, .pointer (some ⟨bk1, 0, none⟩)), (3, .pointer (some ⟨bk6, 0, none⟩)), (4, .pointer (some ⟨bk11, 0, none⟩)), (5, .pointer (some ⟨bk16, 0, none⟩)), (6, .func (.func 35) #[] #[.pointer (some ⟨bk16, 0, none⟩)]), (7, .int .i64 2), (8, .int .i64 1), (13, .int .i64 2), (16, .int .i64 1), (34, .pointer (some ⟨bk16, 3, none⟩)), (37, .pointer (some ⟨bk1, 2, none⟩)), (41, .int .u64 ((UInt64.toNat (List.getD r 1 0) : Nat) : Int))] → Ev w [] wo [.box bk16 (u64s ltq508) 65, .box bk1 (u64s l) 54, .box bk6 (u64s r) 52, .box bk11 (u64s (List.replicate 3 0)) 54] → G 6 #[true, false, true, true, false, true, true, true, false, false, false, false] ac wo := by
      intro ac752 wo753 En754 Hv755
      refine any_from hG ?_
      refine any_two 1 4 (by kernel_rfl) ?_ ?_
      · rintro _ rfl
        have hb756 : 3 < List.length ltq508 := by rw [hlq508]; omega
        refine op_loadbox (d := some 35) (t := 49) (b := bk16) (off := 3) (k := 0) (v := .int .u64 ((UInt64.toNat (List.getD ltq508 3 0) : Nat) : Int)) En754 (by kernel_rfl) Hv755 rfl (u64s_getD hb756) (by kernel_rfl) ?_
        intro ac757 En758
        exact any_to hG (by kernel_rfl) (nd691 _ _ (En758.sub (by kernel_rfl)) (Hv755.pick [0, 1, 2, 3] (by kernel_rfl) (by decide)))
      · rintro _ rfl
        have hb759 : 2 < List.length l := by rw [hl]; omega
        refine op_loadbox (d := some 38) (t := 49) (b := bk1) (off := 2) (k := 1) (v := .int .u64 ((UInt64.toNat (List.getD l 2 0) : Nat) : Int)) En754 (by kernel_rfl) Hv755 rfl (u64s_getD hb759) (by kernel_rfl) ?_
        intro ac760 En761
        exact any_to hG (by kernel_rfl) (nd710 _ _ (En761.sub (by kernel_rfl)) (Hv755.pick [0, 1, 2, 3] (by kernel_rfl) (by decide)))
    refine any_from hG ?_
    refine any_pure (d := some 34) (s := nv (Instr.indexAt 65 (.pointer (some ⟨bk16, 0, none⟩)) (.int .i64 3))) En591 (v := .pointer (some ⟨bk16, 3, none⟩)) 0 (by kernel_rfl) (funext fun _ => run_nv (Go.Dbr.run_indexarr (e := 49) (sz := 1) (m := 4) (j := 3) (o := 3) (by kernel_rfl) (by kernel_rfl) (by omega) (by omega) (by omega) _)) (by kernel_rfl) rfl ?_
    intro ac762 En763
    refine any_pureR (d := some 36) En763 (v := .int .i64 2) 2 (by kernel_rfl) (by kernel_rfl) rfl ?_
    intro ac764 En765
    refine any_pure (d := some 37) (s := nv (Instr.indexAt 54 (.pointer (some ⟨bk1, 0, none⟩)) (.int .i64 2))) En765 (v := .pointer (some ⟨bk1, 2, none⟩)) 3 (by kernel_rfl) (funext fun _ => run_nv (Go.Dbr.run_indexarr (e := 49) (sz := 1) (m := 3) (j := 2) (o := 2) (by kernel_rfl) (by kernel_rfl) (by omega) (by omega) (by omega) _)) (by kernel_rfl) rfl ?_
    intro ac766 En767
    refine any_pureR (d := some 39) En767 (v := .int .i64 1) 5 (by kernel_rfl) (by kernel_rfl) rfl ?_
    intro ac768 En769
    refine any_pure (d := some 40) (s := nv (Instr.indexAt 52 (.pointer (some ⟨bk6, 0, none⟩)) (.int .i64 1))) En769 (v := .pointer (some ⟨bk6, 1, none⟩)) 6 (by kernel_rfl) (funext fun _ => run_nv (Go.Dbr.run_indexarr (e := 49) (sz := 1) (m := 2) (j := 1) (o := 1) (by kernel_rfl) (by kernel_rfl) (by omega) (by omega) (by omega) _)) (by kernel_rfl) rfl ?_
    intro ac770 En771
    refine any_ways [1, 4, 7] (by kernel_rfl) rfl ?_
    refine ⟨?_, ?_, ?_, trivial⟩
    · rintro _ rfl
      have hb772 : 3 < List.length ltq508 := by rw [hlq508]; omega
      refine op_loadbox (d := some 35) (t := 49) (b := bk16) (off := 3) (k := 0) (v := .int .u64 ((UInt64.toNat (List.getD ltq508 3 0) : Nat) : Int)) En771 (by kernel_rfl) wo592 rfl (u64s_getD hb772) (by kernel_rfl) ?_
      intro ac773 En774
      exact any_to hG (by kernel_rfl) (nd729 _ _ (En774.sub (by kernel_rfl)) (wo592.pick [0, 1, 2, 3] (by kernel_rfl) (by decide)))
    · rintro _ rfl
      have hb775 : 2 < List.length l := by rw [hl]; omega
      refine op_loadbox (d := some 38) (t := 49) (b := bk1) (off := 2) (k := 1) (v := .int .u64 ((UInt64.toNat (List.getD l 2 0) : Nat) : Int)) En771 (by kernel_rfl) wo592 rfl (u64s_getD hb775) (by kernel_rfl) ?_
      intro ac776 En777
      exact any_to hG (by kernel_rfl) (nd740 _ _ (En777.sub (by kernel_rfl)) (wo592.pick [0, 1, 2, 3] (by kernel_rfl) (by decide)))
    · rintro _ rfl
      have hb778 : 1 < List.length r := by rw [hr]; omega
      refine op_loadbox (d := some 41) (t := 49) (b := bk6) (off := 1) (k := 2) (v := .int .u64 ((UInt64.toNat (List.getD r 1 0) : Nat) : Int)) En771 (by kernel_rfl) wo592 rfl (u64s_getD hb778) (by kernel_rfl) ?_
      intro ac779 En780
      exact any_to hG (by kernel_rfl) (nd751 _ _ (En780.sub (by kernel_rfl)) (wo592.pick [0, 1, 2, 3] (by kernel_rfl) (by decide)))
  rintro ac781 wo782 ⟨En783, Hv784⟩
  have hTv := top_add (t := ltq508) (x := List.getD l 2 0) (y := List.getD r 1 0) hlq508 (by omega)
  have hTl : List.length (List.set ltq508 3 ((List.getD ltq508 3 0) + ((List.getD l 2 0) * (List.getD r 1 0)))) = 4 := by rw [List.length_set]; exact hlq508
  generalize hTT : List.set ltq508 3 ((List.getD ltq508 3 0) + ((List.getD l 2 0) * (List.getD r 1 0))) = tt at *
  refine block_normal ?_
  refine then_normal ?_
  refine region_from ?_  -- region 12
  refine d_pures [(2, .pointer (some ⟨bk1, 0, none⟩)), (3, .pointer (some ⟨bk6, 0, none⟩)), (4, .pointer (some ⟨bk11, 0, none⟩)), (5, .pointer (some ⟨bk16, 0, none⟩)), (6, .func (.func 35) #[] #[.pointer (some ⟨bk16, 0, none⟩)]), (7, .int .i64 2), (8, .int .i64 1), (13, .int .i64 2), (16, .int .i64 2)] [.int .i64 2, .int .i64 2] 2 En783 (by kernel_rfl) (by kernel_rfl) rfl ?_
  intro ac785 En786
  refine from_end (by kernel_rfl) ?_
  refine then_normal ?_
  refine loop_once ?_
  refine wp_seq ?_
  refine region_from ?_  -- region 7
  refine d_pures [(2, .pointer (some ⟨bk1, 0, none⟩)), (3, .pointer (some ⟨bk6, 0, none⟩)), (4, .pointer (some ⟨bk11, 0, none⟩)), (5, .pointer (some ⟨bk16, 0, none⟩)), (6, .func (.func 35) #[] #[.pointer (some ⟨bk16, 0, none⟩)]), (7, .int .i64 2), (8, .int .i64 1), (13, .int .i64 2), (16, .int .i64 2), (17, .bool false)] [.bool false] 1 En786 (by kernel_rfl) (by kernel_rfl) rfl ?_
  intro ac787 En788
  refine from_end (by kernel_rfl) ?_
  refine then_normal ?_
  refine wp_seq ?_
  refine cond_false En788 (t := false) (by kernel_rfl) rfl ?_
  refine wp_exit ?_
  refine then_exit ?_
  refine then_exit ?_
  refine block_exit ?_
  refine block_normal ?_
  refine then_normal ?_
  refine region_from ?_  -- region 13
  refine d_pures [(2, .pointer (some ⟨bk1, 0, none⟩)), (3, .pointer (some ⟨bk6, 0, none⟩)), (4, .pointer (some ⟨bk11, 0, none⟩)), (5, .pointer (some ⟨bk16, 0, none⟩)), (6, .func (.func 35) #[] #[.pointer (some ⟨bk16, 0, none⟩)]), (7, .int .i64 2), (8, .int .i64 1), (13, .int .i64 3), (16, .int .i64 2)] [.int .i64 3, .int .i64 3] 2 En788 (by kernel_rfl) (by kernel_rfl) rfl ?_
  intro ac789 En790
  refine from_end (by kernel_rfl) ?_
  refine then_normal ?_
  refine loop_once ?_
  refine wp_seq ?_
  refine region_from ?_  -- region 4
  refine d_pures [(2, .pointer (some ⟨bk1, 0, none⟩)), (3, .pointer (some ⟨bk6, 0, none⟩)), (4, .pointer (some ⟨bk11, 0, none⟩)), (5, .pointer (some ⟨bk16, 0, none⟩)), (6, .func (.func 35) #[] #[.pointer (some ⟨bk16, 0, none⟩)]), (7, .int .i64 2), (8, .int .i64 1), (13, .int .i64 3), (14, .bool false), (16, .int .i64 2)] [.bool false] 1 En790 (by kernel_rfl) (by kernel_rfl) rfl ?_
  intro ac791 En792
  refine from_end (by kernel_rfl) ?_
  refine then_normal ?_
  refine wp_seq ?_
  refine cond_false En792 (t := false) (by kernel_rfl) rfl ?_
  refine wp_exit ?_
  refine then_exit ?_
  refine then_exit ?_
  refine block_exit ?_
  refine then_normal ?_
  refine wp_seq ?_
  refine region_from ?_  -- region 14
  refine from_op (by kernel_rfl) ?_
  refine op_val (d := some 47) (x := Instr.indexAt 65 (.pointer (some ⟨bk16, 0, none⟩)) (.int .i64 0)) (v := .pointer (some ⟨bk16, 0, none⟩)) En792 (by kernel_rfl) (Go.Dbr.run_indexarr (e := 49) (sz := 1) (m := 4) (j := 0) (o := 0) (by kernel_rfl) (by kernel_rfl) (by omega) (by omega) (by omega) _) ?_
  intro ac793 En794
  refine from_op (by kernel_rfl) ?_
  have hb795 : 0 < List.length tt := by rw [hTl]; omega
  refine op_loadbox (d := some 48) (t := 49) (b := bk16) (off := 0) (k := 0) (v := .int .u64 ((UInt64.toNat (List.getD tt 0 0) : Nat) : Int)) En794 (by kernel_rfl) Hv784 rfl (u64s_getD hb795) (by kernel_rfl) ?_
  intro ac796 En797
  refine from_op (by kernel_rfl) ?_
  refine op_val (d := some 49) (x := Instr.indexAt 65 (.pointer (some ⟨bk16, 0, none⟩)) (.int .i64 1)) (v := .pointer (some ⟨bk16, 1, none⟩)) En797 (by kernel_rfl) (Go.Dbr.run_indexarr (e := 49) (sz := 1) (m := 4) (j := 1) (o := 1) (by kernel_rfl) (by kernel_rfl) (by omega) (by omega) (by omega) _) ?_
  intro ac798 En799
  refine from_op (by kernel_rfl) ?_
  have hb800 : 1 < List.length tt := by rw [hTl]; omega
  refine op_loadbox (d := some 50) (t := 49) (b := bk16) (off := 1) (k := 0) (v := .int .u64 ((UInt64.toNat (List.getD tt 1 0) : Nat) : Int)) En799 (by kernel_rfl) Hv784 rfl (u64s_getD hb800) (by kernel_rfl) ?_
  intro ac801 En802
  refine from_op (by kernel_rfl) ?_
  refine op_val (d := some 51) (x := Instr.indexAt 65 (.pointer (some ⟨bk16, 0, none⟩)) (.int .i64 2)) (v := .pointer (some ⟨bk16, 2, none⟩)) En802 (by kernel_rfl) (Go.Dbr.run_indexarr (e := 49) (sz := 1) (m := 4) (j := 2) (o := 2) (by kernel_rfl) (by kernel_rfl) (by omega) (by omega) (by omega) _) ?_
  intro ac803 En804
  refine from_op (by kernel_rfl) ?_
  have hb805 : 2 < List.length tt := by rw [hTl]; omega
  refine op_loadbox (d := some 52) (t := 49) (b := bk16) (off := 2) (k := 0) (v := .int .u64 ((UInt64.toNat (List.getD tt 2 0) : Nat) : Int)) En804 (by kernel_rfl) Hv784 rfl (u64s_getD hb805) (by kernel_rfl) ?_
  intro ac806 En807
  refine d_pures [(2, .pointer (some ⟨bk1, 0, none⟩)), (3, .pointer (some ⟨bk6, 0, none⟩)), (4, .pointer (some ⟨bk11, 0, none⟩)), (5, .pointer (some ⟨bk16, 0, none⟩)), (6, .func (.func 35) #[] #[.pointer (some ⟨bk16, 0, none⟩)]), (7, .int .i64 2), (8, .int .i64 1), (13, .int .i64 3), (16, .int .i64 2), (48, .int .u64 ((UInt64.toNat (List.getD tt 0 0) : Nat) : Int)), (50, .int .u64 ((UInt64.toNat (List.getD tt 1 0) : Nat) : Int)), (53, .int .u64 (IntKind.wrap .u64 ((BitVec.ofInt (IntKind.bits .u64) ((UInt64.toNat (List.getD tt 2 0) : Nat) : Int) &&& BitVec.ofInt (IntKind.bits .u64) (3 : Int)).toNat : Int)))] [.int .u64 (IntKind.wrap .u64 ((BitVec.ofInt (IntKind.bits .u64) ((UInt64.toNat (List.getD tt 2 0) : Nat) : Int) &&& BitVec.ofInt (IntKind.bits .u64) (3 : Int)).toNat : Int))] 7 En807 (by kernel_rfl) (by kernel_rfl) rfl ?_
  intro ac808 En809
  rw [Go.Dbr.u64_and (a := ((UInt64.toNat (List.getD tt 2 0) : Nat) : Int)) (b := (3 : Int)) (x := List.getD tt 2 0) (y := (3 : UInt64)) rfl rfl] at En809
  refine d_pures [(2, .pointer (some ⟨bk1, 0, none⟩)), (3, .pointer (some ⟨bk6, 0, none⟩)), (4, .pointer (some ⟨bk11, 0, none⟩)), (5, .pointer (some ⟨bk16, 0, none⟩)), (6, .func (.func 35) #[] #[.pointer (some ⟨bk16, 0, none⟩)]), (7, .int .i64 2), (8, .int .i64 1), (13, .int .i64 3), (16, .int .i64 2), (54, .agg (List.toArray (u64s ([List.getD tt 0 0, List.getD tt 1 0, (List.getD tt 2 0) &&& (3 : UInt64)] : List UInt64))))] [.agg (List.toArray (u64s ([List.getD tt 0 0, List.getD tt 1 0, (List.getD tt 2 0) &&& (3 : UInt64)] : List UInt64)))] 8 En809 (by kernel_rfl) (by kernel_rfl) rfl ?_
  intro ac810 En811
  refine from_op (by kernel_rfl) ?_
  refine op_alloc (d := some 9) (T := 54) (x := .tuple #[]) (z := .agg (List.toArray (u64s (List.replicate 3 0)))) (cs := u64s (List.replicate 3 0)) En811 (by kernel_rfl) (by kernel_rfl) (by kernel_rfl) Hv784 ?_
  intro ac813 wo814 bk812 En815 Hv816
  refine from_op (by kernel_rfl) ?_
  refine op_storeaggbox (d := none) (t := 54) (b := bk812) (off := 0) (k := 4) (m := 3) (xs := u64s ([List.getD tt 0 0, List.getD tt 1 0, (List.getD tt 2 0) &&& (3 : UInt64)] : List UInt64)) (v := .agg (List.toArray (u64s ([List.getD tt 0 0, List.getD tt 1 0, (List.getD tt 2 0) &&& (3 : UInt64)] : List UInt64)))) (cs' := u64s ([List.getD tt 0 0, List.getD tt 1 0, (List.getD tt 2 0) &&& (3 : UInt64)] : List UInt64)) En815 (by kernel_rfl) Hv816 rfl rfl (u64s_lenh (show List.length ([List.getD tt 0 0, List.getD tt 1 0, (List.getD tt 2 0) &&& (3 : UInt64)] : List UInt64) = 3 from rfl)) (by rw [(u64s_lenh (List.length_replicate))]; decide) (by kernel_rfl) (u64s_one _) (store_whole (u64s_lenh (List.length_replicate))) (L' := [.box bk16 (u64s tt) 65, .box bk1 (u64s l) 54, .box bk6 (u64s r) 52, .box bk11 (u64s (List.replicate 3 0)) 54, .box bk812 (u64s ([List.getD tt 0 0, List.getD tt 1 0, (List.getD tt 2 0) &&& (3 : UInt64)] : List UInt64)) 54]) rfl ?_
  intro ac817 wo818  En819 Hv820
  refine from_end (by kernel_rfl) ?_
  refine then_normal ?_
  refine wp_seq ?_
  refine region_cut (F := fun ac wo => Env ac 73 [(2, .pointer (some ⟨bk1, 0, none⟩)), (3, .pointer (some ⟨bk6, 0, none⟩)), (4, .pointer (some ⟨bk11, 0, none⟩)), (5, .pointer (some ⟨bk16, 0, none⟩)), (6, .func (.func 35) #[] #[.pointer (some ⟨bk16, 0, none⟩)]), (7, .int .i64 2), (8, .int .i64 1), (9, .pointer (some ⟨bk812, 0, none⟩)), (10, .int .u64 ((UInt64.toNat ((List.getD tt 2 0) &&& ~~~ (3 : UInt64)) : Nat) : Int)), (11, .int .u64 ((UInt64.toNat (List.getD tt 3 0) : Nat) : Int)), (13, .int .i64 3), (16, .int .i64 2)] ∧ Ev w [] wo [.box bk16 (u64s tt) 65, .box bk1 (u64s l) 54, .box bk6 (u64s r) 52, .box bk11 (u64s (List.replicate 3 0)) 54, .box bk812 (u64s ([List.getD tt 0 0, List.getD tt 1 0, (List.getD tt 2 0) &&& (3 : UInt64)] : List UInt64)) 54]) ?_ ?_
  ·
    refine draw_any (by kernel_rfl) 7 (by kernel_rfl) ?_  -- region 15
    have wo821 := Hv820.trans (Ev.drew Hv820.heap)
    refine any_name fun G hG => ?_
    have nd850 : ∀ (ac : Act) (wo : World), Env ac 73 [(2, .pointer (some ⟨bk1, 0, none⟩)), (3, .pointer (some ⟨bk6, 0, none⟩)), (4, .pointer (some ⟨bk11, 0, none⟩)), (5, .pointer (some ⟨bk16, 0, none⟩)), (6, .func (.func 35) #[] #[.pointer (some ⟨bk16, 0, none⟩)]), (7, .int .i64 2), (8, .int .i64 1), (9, .pointer (some ⟨bk812, 0, none⟩)), (13, .int .i64 3), (16, .int .i64 2), (56, .int .u64 ((UInt64.toNat (List.getD tt 2 0) : Nat) : Int)), (58, .pointer (some ⟨bk16, 3, none⟩))] → Ev w [] wo [.box bk16 (u64s tt) 65, .box bk1 (u64s l) 54, .box bk6 (u64s r) 52, .box bk11 (u64s (List.replicate 3 0)) 54, .box bk812 (u64s ([List.getD tt 0 0, List.getD tt 1 0, (List.getD tt 2 0) &&& (3 : UInt64)] : List UInt64)) 54] → G 4 #[true, true, false, true, false, false, false] ac wo := by
      intro ac851 wo852 En853 Hv854
      refine any_from hG ?_
      refine any_pureR (d := some 57) En853 (v := .int .u64 (IntKind.wrap .u64 ((BitVec.ofInt (IntKind.bits .u64) ((UInt64.toNat (List.getD tt 2 0) : Nat) : Int) &&& ~~~ (BitVec.ofInt (IntKind.bits .u64) (3 : Int))).toNat : Int))) 2 (by kernel_rfl) (by kernel_rfl) rfl ?_
      intro ac855 En856
      rw [Go.Dbr.u64_andNot (a := ((UInt64.toNat (List.getD tt 2 0) : Nat) : Int)) (b := (3 : Int)) (x := List.getD tt 2 0) (y := (3 : UInt64)) rfl rfl] at En856
      refine any_pureR (d := some 10) En856 (v := .int .u64 ((UInt64.toNat ((List.getD tt 2 0) &&& ~~~ (3 : UInt64)) : Nat) : Int)) 5 (by kernel_rfl) (by kernel_rfl) rfl ?_
      intro ac857 En858
      refine any_at 4 (by kernel_rfl) rfl ?_
      have hb859 : 3 < List.length tt := by rw [hTl]; omega
      refine op_loadbox (d := some 59) (t := 49) (b := bk16) (off := 3) (k := 0) (v := .int .u64 ((UInt64.toNat (List.getD tt 3 0) : Nat) : Int)) En858 (by kernel_rfl) Hv854 rfl (u64s_getD hb859) (by kernel_rfl) ?_
      intro ac860 En861
      refine any_pureR (d := some 11) En861 (v := .int .u64 ((UInt64.toNat (List.getD tt 3 0) : Nat) : Int)) 6 (by kernel_rfl) (by kernel_rfl) rfl ?_
      intro ac862 En863
      exact any_end (by kernel_rfl) ⟨En863.sub (by kernel_rfl), Hv854.pick [0, 1, 2, 3, 4] (by kernel_rfl) (by decide)⟩
    have nd864 : ∀ (ac : Act) (wo : World), Env ac 73 [(2, .pointer (some ⟨bk1, 0, none⟩)), (3, .pointer (some ⟨bk6, 0, none⟩)), (4, .pointer (some ⟨bk11, 0, none⟩)), (5, .pointer (some ⟨bk16, 0, none⟩)), (6, .func (.func 35) #[] #[.pointer (some ⟨bk16, 0, none⟩)]), (7, .int .i64 2), (8, .int .i64 1), (9, .pointer (some ⟨bk812, 0, none⟩)), (13, .int .i64 3), (16, .int .i64 2), (55, .pointer (some ⟨bk16, 2, none⟩)), (59, .int .u64 ((UInt64.toNat (List.getD tt 3 0) : Nat) : Int))] → Ev w [] wo [.box bk16 (u64s tt) 65, .box bk1 (u64s l) 54, .box bk6 (u64s r) 52, .box bk11 (u64s (List.replicate 3 0)) 54, .box bk812 (u64s ([List.getD tt 0 0, List.getD tt 1 0, (List.getD tt 2 0) &&& (3 : UInt64)] : List UInt64)) 54] → G 4 #[true, false, false, true, true, false, false] ac wo := by
      intro ac865 wo866 En867 Hv868
      refine any_from hG ?_
      refine any_at 1 (by kernel_rfl) rfl ?_
      have hb869 : 2 < List.length tt := by rw [hTl]; omega
      refine op_loadbox (d := some 56) (t := 49) (b := bk16) (off := 2) (k := 0) (v := .int .u64 ((UInt64.toNat (List.getD tt 2 0) : Nat) : Int)) En867 (by kernel_rfl) Hv868 rfl (u64s_getD hb869) (by kernel_rfl) ?_
      intro ac870 En871
      refine any_pureR (d := some 57) En871 (v := .int .u64 (IntKind.wrap .u64 ((BitVec.ofInt (IntKind.bits .u64) ((UInt64.toNat (List.getD tt 2 0) : Nat) : Int) &&& ~~~ (BitVec.ofInt (IntKind.bits .u64) (3 : Int))).toNat : Int))) 2 (by kernel_rfl) (by kernel_rfl) rfl ?_
      intro ac872 En873
      rw [Go.Dbr.u64_andNot (a := ((UInt64.toNat (List.getD tt 2 0) : Nat) : Int)) (b := (3 : Int)) (x := List.getD tt 2 0) (y := (3 : UInt64)) rfl rfl] at En873
      refine any_pureR (d := some 10) En873 (v := .int .u64 ((UInt64.toNat ((List.getD tt 2 0) &&& ~~~ (3 : UInt64)) : Nat) : Int)) 5 (by kernel_rfl) (by kernel_rfl) rfl ?_
      intro ac874 En875
      refine any_pureR (d := some 11) En875 (v := .int .u64 ((UInt64.toNat (List.getD tt 3 0) : Nat) : Int)) 6 (by kernel_rfl) (by kernel_rfl) rfl ?_
      intro ac876 En877
      exact any_end (by kernel_rfl) ⟨En877.sub (by kernel_rfl), Hv868.pick [0, 1, 2, 3, 4] (by kernel_rfl) (by decide)⟩
    refine any_from hG ?_
    refine any_pure (d := some 55) (s := nv (Instr.indexAt 65 (.pointer (some ⟨bk16, 0, none⟩)) (.int .i64 2))) En819 (v := .pointer (some ⟨bk16, 2, none⟩)) 0 (by kernel_rfl) (funext fun _ => run_nv (Go.Dbr.run_indexarr (e := 49) (sz := 1) (m := 4) (j := 2) (o := 2) (by kernel_rfl) (by kernel_rfl) (by omega) (by omega) (by omega) _)) (by kernel_rfl) rfl ?_
    intro ac878 En879
    refine any_pure (d := some 58) (s := nv (Instr.indexAt 65 (.pointer (some ⟨bk16, 0, none⟩)) (.int .i64 3))) En879 (v := .pointer (some ⟨bk16, 3, none⟩)) 3 (by kernel_rfl) (funext fun _ => run_nv (Go.Dbr.run_indexarr (e := 49) (sz := 1) (m := 4) (j := 3) (o := 3) (by kernel_rfl) (by kernel_rfl) (by omega) (by omega) (by omega) _)) (by kernel_rfl) rfl ?_
    intro ac880 En881
    refine any_two 1 4 (by kernel_rfl) ?_ ?_
    · rintro _ rfl
      have hb882 : 2 < List.length tt := by rw [hTl]; omega
      refine op_loadbox (d := some 56) (t := 49) (b := bk16) (off := 2) (k := 0) (v := .int .u64 ((UInt64.toNat (List.getD tt 2 0) : Nat) : Int)) En881 (by kernel_rfl) wo821 rfl (u64s_getD hb882) (by kernel_rfl) ?_
      intro ac883 En884
      exact any_to hG (by kernel_rfl) (nd850 _ _ (En884.sub (by kernel_rfl)) (wo821.pick [0, 1, 2, 3, 4] (by kernel_rfl) (by decide)))
    · rintro _ rfl
      have hb885 : 3 < List.length tt := by rw [hTl]; omega
      refine op_loadbox (d := some 59) (t := 49) (b := bk16) (off := 3) (k := 0) (v := .int .u64 ((UInt64.toNat (List.getD tt 3 0) : Nat) : Int)) En881 (by kernel_rfl) wo821 rfl (u64s_getD hb885) (by kernel_rfl) ?_
      intro ac886 En887
      exact any_to hG (by kernel_rfl) (nd864 _ _ (En887.sub (by kernel_rfl)) (wo821.pick [0, 1, 2, 3, 4] (by kernel_rfl) (by decide)))
  rintro ac888 wo889 ⟨En890, Hv891⟩
  refine then_normal ?_
  refine wp_seq ?_
  refine region_from ?_  -- region 16
  refine from_op (by kernel_rfl) ?_
  refine op_loadaggbox (d := some 60) (t := 54) (b := bk812) (off := 0) (k := 4) (m := 3) (xs := u64s ([List.getD tt 0 0, List.getD tt 1 0, (List.getD tt 2 0) &&& (3 : UInt64)] : List UInt64)) En890 (by kernel_rfl) Hv891 rfl (load_whole (u64s_lenh (show List.length ([List.getD tt 0 0, List.getD tt 1 0, (List.getD tt 2 0) &&& (3 : UInt64)] : List UInt64) = 3 from rfl))) (u64s_lenh (show List.length ([List.getD tt 0 0, List.getD tt 1 0, (List.getD tt 2 0) &&& (3 : UInt64)] : List UInt64) = 3 from rfl)) (by kernel_rfl) (by kernel_rfl) ?_
  intro ac892 En893
  refine d_pures [(2, .pointer (some ⟨bk1, 0, none⟩)), (3, .pointer (some ⟨bk6, 0, none⟩)), (4, .pointer (some ⟨bk11, 0, none⟩)), (5, .pointer (some ⟨bk16, 0, none⟩)), (6, .func (.func 35) #[] #[.pointer (some ⟨bk16, 0, none⟩)]), (7, .int .i64 2), (8, .int .i64 1), (9, .pointer (some ⟨bk812, 0, none⟩)), (10, .int .u64 ((UInt64.toNat ((List.getD tt 2 0) &&& ~~~ (3 : UInt64)) : Nat) : Int)), (11, .int .u64 ((UInt64.toNat (List.getD tt 3 0) : Nat) : Int)), (13, .int .i64 3), (16, .int .i64 2), (60, .agg (List.toArray (u64s ([List.getD tt 0 0, List.getD tt 1 0, (List.getD tt 2 0) &&& (3 : UInt64)] : List UInt64)))), (61, .int .u64 ((UInt64.toNat ((List.getD tt 2 0) &&& ~~~ (3 : UInt64)) : Nat) : Int)), (62, .int .u64 ((UInt64.toNat (List.getD tt 3 0) : Nat) : Int))] [.int .u64 ((UInt64.toNat ((List.getD tt 2 0) &&& ~~~ (3 : UInt64)) : Nat) : Int), .int .u64 ((UInt64.toNat (List.getD tt 3 0) : Nat) : Int)] 3 En893 (by kernel_rfl) (by kernel_rfl) rfl ?_
  intro ac894 En895
  refine from_op (by kernel_rfl) ?_
  have hM896 : Heap wo889 [] := Hv891.heap.pick [] (by kernel_rfl) (by decide)
  refine op_call (d := some 63) (f := 26) (args := #[.agg (List.toArray (u64s ([List.getD tt 0 0, List.getD tt 1 0, (List.getD tt 2 0) &&& (3 : UInt64)] : List UInt64))), .int .u64 ((UInt64.toNat ((List.getD tt 2 0) &&& ~~~ (3 : UInt64)) : Nat) : Int), .int .u64 ((UInt64.toNat (List.getD tt 3 0) : Nat) : Int), .int .u64 0]) En895 (by kernel_rfl) ((plus_go _ ([List.getD tt 0 0, List.getD tt 1 0, (List.getD tt 2 0) &&& (3 : UInt64)] : List UInt64) (show List.length ([List.getD tt 0 0, List.getD tt 1 0, (List.getD tt 2 0) &&& (3 : UInt64)] : List UInt64) = 3 from rfl) ((List.getD tt 2 0) &&& ~~~ (3 : UInt64)) (List.getD tt 3 0) (0 : UInt64)).mono ?_)
  rintro _ wo898 ⟨rfl, he901⟩
  refine ⟨_, rfl, ?_⟩
  intro ac897 En899
  have Hv900 : Ev w [] wo898 [.box bk16 (u64s tt) 65, .box bk1 (u64s l) 54, .box bk6 (u64s r) 52, .box bk11 (u64s (List.replicate 3 0)) 54, .box bk812 (u64s ([List.getD tt 0 0, List.getD tt 1 0, (List.getD tt 2 0) &&& (3 : UInt64)] : List UInt64)) 54] := Hv891.trans (Ev.call (R := [.box bk16 (u64s tt) 65, .box bk1 (u64s l) 54, .box bk6 (u64s r) 52, .box bk11 (u64s (List.replicate 3 0)) 54, .box bk812 (u64s ([List.getD tt 0 0, List.getD tt 1 0, (List.getD tt 2 0) &&& (3 : UInt64)] : List UInt64)) 54]) Hv891.heap [0, 1, 2, 3, 4] (by kernel_rfl) (by decide) he901)
  clear hM896 he901
  refine from_op (by kernel_rfl) ?_
  refine op_storeaggbox (d := none) (t := 54) (b := bk812) (off := 0) (k := 4) (m := 3) (xs := u64s (plusF ([List.getD tt 0 0, List.getD tt 1 0, (List.getD tt 2 0) &&& (3 : UInt64)] : List UInt64) ((List.getD tt 2 0) &&& ~~~ (3 : UInt64)) (List.getD tt 3 0) (0 : UInt64))) (v := .agg (List.toArray (u64s (plusF ([List.getD tt 0 0, List.getD tt 1 0, (List.getD tt 2 0) &&& (3 : UInt64)] : List UInt64) ((List.getD tt 2 0) &&& ~~~ (3 : UInt64)) (List.getD tt 3 0) (0 : UInt64))))) (cs' := u64s (plusF ([List.getD tt 0 0, List.getD tt 1 0, (List.getD tt 2 0) &&& (3 : UInt64)] : List UInt64) ((List.getD tt 2 0) &&& ~~~ (3 : UInt64)) (List.getD tt 3 0) (0 : UInt64))) En899 (by kernel_rfl) Hv900 rfl rfl (u64s_lenh (plusF_len _ _ _ _)) (by rw [(u64s_lenh (show List.length ([List.getD tt 0 0, List.getD tt 1 0, (List.getD tt 2 0) &&& (3 : UInt64)] : List UInt64) = 3 from rfl))]; decide) (by kernel_rfl) (u64s_one _) (store_whole (u64s_lenh (show List.length ([List.getD tt 0 0, List.getD tt 1 0, (List.getD tt 2 0) &&& (3 : UInt64)] : List UInt64) = 3 from rfl))) (L' := [.box bk16 (u64s tt) 65, .box bk1 (u64s l) 54, .box bk6 (u64s r) 52, .box bk11 (u64s (List.replicate 3 0)) 54, .box bk812 (u64s (plusF ([List.getD tt 0 0, List.getD tt 1 0, (List.getD tt 2 0) &&& (3 : UInt64)] : List UInt64) ((List.getD tt 2 0) &&& ~~~ (3 : UInt64)) (List.getD tt 3 0) (0 : UInt64))) 54]) rfl ?_
  intro ac902 wo903  En904 Hv905
  refine from_end (by kernel_rfl) ?_
  refine then_normal ?_
  refine wp_seq ?_
  refine region_from ?_  -- region 17
  refine from_op (by kernel_rfl) ?_
  refine op_loadaggbox (d := some 64) (t := 54) (b := bk812) (off := 0) (k := 4) (m := 3) (xs := u64s (plusF ([List.getD tt 0 0, List.getD tt 1 0, (List.getD tt 2 0) &&& (3 : UInt64)] : List UInt64) ((List.getD tt 2 0) &&& ~~~ (3 : UInt64)) (List.getD tt 3 0) (0 : UInt64))) En904 (by kernel_rfl) Hv905 rfl (load_whole (u64s_lenh (plusF_len _ _ _ _))) (u64s_lenh (plusF_len _ _ _ _)) (by kernel_rfl) (by kernel_rfl) ?_
  intro ac906 En907
  refine d_pures [(2, .pointer (some ⟨bk1, 0, none⟩)), (3, .pointer (some ⟨bk6, 0, none⟩)), (4, .pointer (some ⟨bk11, 0, none⟩)), (5, .pointer (some ⟨bk16, 0, none⟩)), (6, .func (.func 35) #[] #[.pointer (some ⟨bk16, 0, none⟩)]), (7, .int .i64 2), (8, .int .i64 1), (9, .pointer (some ⟨bk812, 0, none⟩)), (10, .int .u64 ((UInt64.toNat ((List.getD tt 2 0) &&& ~~~ (3 : UInt64)) : Nat) : Int)), (11, .int .u64 ((UInt64.toNat (List.getD tt 3 0) : Nat) : Int)), (13, .int .i64 3), (16, .int .i64 2), (64, .agg (List.toArray (u64s (plusF ([List.getD tt 0 0, List.getD tt 1 0, (List.getD tt 2 0) &&& (3 : UInt64)] : List UInt64) ((List.getD tt 2 0) &&& ~~~ (3 : UInt64)) (List.getD tt 3 0) (0 : UInt64))))), (66, .int .u64 (Int.fdiv ((UInt64.toNat ((List.getD tt 2 0) &&& ~~~ (3 : UInt64)) : Nat) : Int) (2 ^ 2)))] [.int .u64 ((UInt64.toNat ((List.getD tt 2 0) &&& ~~~ (3 : UInt64)) : Nat) : Int), .int .u64 (Int.fdiv ((UInt64.toNat ((List.getD tt 2 0) &&& ~~~ (3 : UInt64)) : Nat) : Int) (2 ^ 2))] 3 En907 (by kernel_rfl) (by kernel_rfl) rfl ?_
  intro ac908 En909
  rw [Go.Dbr.u64_shr (a := ((UInt64.toNat ((List.getD tt 2 0) &&& ~~~ (3 : UInt64)) : Nat) : Int)) (x := (List.getD tt 2 0) &&& ~~~ (3 : UInt64)) (n := 2) rfl (by decide)] at En909
  refine d_pures [(2, .pointer (some ⟨bk1, 0, none⟩)), (3, .pointer (some ⟨bk6, 0, none⟩)), (4, .pointer (some ⟨bk11, 0, none⟩)), (5, .pointer (some ⟨bk16, 0, none⟩)), (6, .func (.func 35) #[] #[.pointer (some ⟨bk16, 0, none⟩)]), (7, .int .i64 2), (8, .int .i64 1), (9, .pointer (some ⟨bk812, 0, none⟩)), (10, .int .u64 ((UInt64.toNat ((List.getD tt 2 0) &&& ~~~ (3 : UInt64)) : Nat) : Int)), (11, .int .u64 ((UInt64.toNat (List.getD tt 3 0) : Nat) : Int)), (13, .int .i64 3), (16, .int .i64 2), (64, .agg (List.toArray (u64s (plusF ([List.getD tt 0 0, List.getD tt 1 0, (List.getD tt 2 0) &&& (3 : UInt64)] : List UInt64) ((List.getD tt 2 0) &&& ~~~ (3 : UInt64)) (List.getD tt 3 0) (0 : UInt64))))), (66, .int .u64 ((UInt64.toNat (((List.getD tt 2 0) &&& ~~~ (3 : UInt64)) >>> UInt64.ofNat 2) : Nat) : Int)), (68, .int .u64 (IntKind.wrap .u64 (((UInt64.toNat (List.getD tt 3 0) : Nat) : Int) * 2 ^ 62)))] [.int .u64 ((UInt64.toNat (List.getD tt 3 0) : Nat) : Int), .int .u64 (IntKind.wrap .u64 (((UInt64.toNat (List.getD tt 3 0) : Nat) : Int) * 2 ^ 62))] 5 En909 (by kernel_rfl) (by kernel_rfl) rfl ?_
  intro ac910 En911
  rw [Go.Dbr.u64_shl (a := ((UInt64.toNat (List.getD tt 3 0) : Nat) : Int)) (x := List.getD tt 3 0) (n := 62) rfl (by decide)] at En911
  refine d_pures [(2, .pointer (some ⟨bk1, 0, none⟩)), (3, .pointer (some ⟨bk6, 0, none⟩)), (4, .pointer (some ⟨bk11, 0, none⟩)), (5, .pointer (some ⟨bk16, 0, none⟩)), (6, .func (.func 35) #[] #[.pointer (some ⟨bk16, 0, none⟩)]), (7, .int .i64 2), (8, .int .i64 1), (9, .pointer (some ⟨bk812, 0, none⟩)), (10, .int .u64 ((UInt64.toNat ((List.getD tt 2 0) &&& ~~~ (3 : UInt64)) : Nat) : Int)), (11, .int .u64 ((UInt64.toNat (List.getD tt 3 0) : Nat) : Int)), (13, .int .i64 3), (16, .int .i64 2), (64, .agg (List.toArray (u64s (plusF ([List.getD tt 0 0, List.getD tt 1 0, (List.getD tt 2 0) &&& (3 : UInt64)] : List UInt64) ((List.getD tt 2 0) &&& ~~~ (3 : UInt64)) (List.getD tt 3 0) (0 : UInt64))))), (69, .int .u64 (IntKind.wrap .u64 ((BitVec.ofInt (IntKind.bits .u64) ((UInt64.toNat (((List.getD tt 2 0) &&& ~~~ (3 : UInt64)) >>> UInt64.ofNat 2) : Nat) : Int) ||| BitVec.ofInt (IntKind.bits .u64) ((UInt64.toNat ((List.getD tt 3 0) <<< UInt64.ofNat 62) : Nat) : Int)).toNat : Int)))] [.int .u64 (IntKind.wrap .u64 ((BitVec.ofInt (IntKind.bits .u64) ((UInt64.toNat (((List.getD tt 2 0) &&& ~~~ (3 : UInt64)) >>> UInt64.ofNat 2) : Nat) : Int) ||| BitVec.ofInt (IntKind.bits .u64) ((UInt64.toNat ((List.getD tt 3 0) <<< UInt64.ofNat 62) : Nat) : Int)).toNat : Int))] 6 En911 (by kernel_rfl) (by kernel_rfl) rfl ?_
  intro ac912 En913
  rw [Go.Dbr.u64_or (a := ((UInt64.toNat (((List.getD tt 2 0) &&& ~~~ (3 : UInt64)) >>> UInt64.ofNat 2) : Nat) : Int)) (b := ((UInt64.toNat ((List.getD tt 3 0) <<< UInt64.ofNat 62) : Nat) : Int)) (x := ((List.getD tt 2 0) &&& ~~~ (3 : UInt64)) >>> UInt64.ofNat 2) (y := (List.getD tt 3 0) <<< UInt64.ofNat 62) rfl rfl] at En913
  refine d_pures [(2, .pointer (some ⟨bk1, 0, none⟩)), (3, .pointer (some ⟨bk6, 0, none⟩)), (4, .pointer (some ⟨bk11, 0, none⟩)), (5, .pointer (some ⟨bk16, 0, none⟩)), (6, .func (.func 35) #[] #[.pointer (some ⟨bk16, 0, none⟩)]), (7, .int .i64 2), (8, .int .i64 1), (9, .pointer (some ⟨bk812, 0, none⟩)), (10, .int .u64 ((UInt64.toNat ((List.getD tt 2 0) &&& ~~~ (3 : UInt64)) : Nat) : Int)), (11, .int .u64 ((UInt64.toNat (List.getD tt 3 0) : Nat) : Int)), (13, .int .i64 3), (16, .int .i64 2), (64, .agg (List.toArray (u64s (plusF ([List.getD tt 0 0, List.getD tt 1 0, (List.getD tt 2 0) &&& (3 : UInt64)] : List UInt64) ((List.getD tt 2 0) &&& ~~~ (3 : UInt64)) (List.getD tt 3 0) (0 : UInt64))))), (69, .int .u64 ((UInt64.toNat ((((List.getD tt 2 0) &&& ~~~ (3 : UInt64)) >>> UInt64.ofNat 2) ||| ((List.getD tt 3 0) <<< UInt64.ofNat 62)) : Nat) : Int)), (71, .int .u64 (Int.fdiv ((UInt64.toNat (List.getD tt 3 0) : Nat) : Int) (2 ^ 2)))] [.int .u64 ((UInt64.toNat (List.getD tt 3 0) : Nat) : Int), .int .u64 (Int.fdiv ((UInt64.toNat (List.getD tt 3 0) : Nat) : Int) (2 ^ 2))] 8 En913 (by kernel_rfl) (by kernel_rfl) rfl ?_
  intro ac914 En915
  rw [Go.Dbr.u64_shr (a := ((UInt64.toNat (List.getD tt 3 0) : Nat) : Int)) (x := List.getD tt 3 0) (n := 2) rfl (by decide)] at En915
  refine from_op (by kernel_rfl) ?_
  have hM916 : Heap wo903 [] := Hv905.heap.pick [] (by kernel_rfl) (by decide)
  refine op_call (d := some 72) (f := 26) (args := #[.agg (List.toArray (u64s (plusF ([List.getD tt 0 0, List.getD tt 1 0, (List.getD tt 2 0) &&& (3 : UInt64)] : List UInt64) ((List.getD tt 2 0) &&& ~~~ (3 : UInt64)) (List.getD tt 3 0) (0 : UInt64)))), .int .u64 ((UInt64.toNat ((((List.getD tt 2 0) &&& ~~~ (3 : UInt64)) >>> UInt64.ofNat 2) ||| ((List.getD tt 3 0) <<< UInt64.ofNat 62)) : Nat) : Int), .int .u64 ((UInt64.toNat ((List.getD tt 3 0) >>> UInt64.ofNat 2) : Nat) : Int), .int .u64 0]) En915 (by kernel_rfl) ((plus_go _ (plusF ([List.getD tt 0 0, List.getD tt 1 0, (List.getD tt 2 0) &&& (3 : UInt64)] : List UInt64) ((List.getD tt 2 0) &&& ~~~ (3 : UInt64)) (List.getD tt 3 0) (0 : UInt64)) (plusF_len _ _ _ _) ((((List.getD tt 2 0) &&& ~~~ (3 : UInt64)) >>> UInt64.ofNat 2) ||| ((List.getD tt 3 0) <<< UInt64.ofNat 62)) ((List.getD tt 3 0) >>> UInt64.ofNat 2) (0 : UInt64)).mono ?_)
  rintro _ wo918 ⟨rfl, he921⟩
  refine ⟨_, rfl, ?_⟩
  intro ac917 En919
  have Hv920 : Ev w [] wo918 [.box bk16 (u64s tt) 65, .box bk1 (u64s l) 54, .box bk6 (u64s r) 52, .box bk11 (u64s (List.replicate 3 0)) 54, .box bk812 (u64s (plusF ([List.getD tt 0 0, List.getD tt 1 0, (List.getD tt 2 0) &&& (3 : UInt64)] : List UInt64) ((List.getD tt 2 0) &&& ~~~ (3 : UInt64)) (List.getD tt 3 0) (0 : UInt64))) 54] := Hv905.trans (Ev.call (R := [.box bk16 (u64s tt) 65, .box bk1 (u64s l) 54, .box bk6 (u64s r) 52, .box bk11 (u64s (List.replicate 3 0)) 54, .box bk812 (u64s (plusF ([List.getD tt 0 0, List.getD tt 1 0, (List.getD tt 2 0) &&& (3 : UInt64)] : List UInt64) ((List.getD tt 2 0) &&& ~~~ (3 : UInt64)) (List.getD tt 3 0) (0 : UInt64))) 54]) Hv905.heap [0, 1, 2, 3, 4] (by kernel_rfl) (by decide) he921)
  clear hM916 he921
  refine from_op (by kernel_rfl) ?_
  refine op_storeaggbox (d := none) (t := 54) (b := bk11) (off := 0) (k := 3) (m := 3) (xs := u64s (plusF (plusF ([List.getD tt 0 0, List.getD tt 1 0, (List.getD tt 2 0) &&& (3 : UInt64)] : List UInt64) ((List.getD tt 2 0) &&& ~~~ (3 : UInt64)) (List.getD tt 3 0) (0 : UInt64)) ((((List.getD tt 2 0) &&& ~~~ (3 : UInt64)) >>> UInt64.ofNat 2) ||| ((List.getD tt 3 0) <<< UInt64.ofNat 62)) ((List.getD tt 3 0) >>> UInt64.ofNat 2) (0 : UInt64))) (v := .agg (List.toArray (u64s (plusF (plusF ([List.getD tt 0 0, List.getD tt 1 0, (List.getD tt 2 0) &&& (3 : UInt64)] : List UInt64) ((List.getD tt 2 0) &&& ~~~ (3 : UInt64)) (List.getD tt 3 0) (0 : UInt64)) ((((List.getD tt 2 0) &&& ~~~ (3 : UInt64)) >>> UInt64.ofNat 2) ||| ((List.getD tt 3 0) <<< UInt64.ofNat 62)) ((List.getD tt 3 0) >>> UInt64.ofNat 2) (0 : UInt64))))) (cs' := u64s (plusF (plusF ([List.getD tt 0 0, List.getD tt 1 0, (List.getD tt 2 0) &&& (3 : UInt64)] : List UInt64) ((List.getD tt 2 0) &&& ~~~ (3 : UInt64)) (List.getD tt 3 0) (0 : UInt64)) ((((List.getD tt 2 0) &&& ~~~ (3 : UInt64)) >>> UInt64.ofNat 2) ||| ((List.getD tt 3 0) <<< UInt64.ofNat 62)) ((List.getD tt 3 0) >>> UInt64.ofNat 2) (0 : UInt64))) En919 (by kernel_rfl) Hv920 rfl rfl (u64s_lenh (plusF_len _ _ _ _)) (by rw [(u64s_lenh (List.length_replicate))]; decide) (by kernel_rfl) (u64s_one _) (store_whole (u64s_lenh (List.length_replicate))) (L' := [.box bk16 (u64s tt) 65, .box bk1 (u64s l) 54, .box bk6 (u64s r) 52, .box bk11 (u64s (plusF (plusF ([List.getD tt 0 0, List.getD tt 1 0, (List.getD tt 2 0) &&& (3 : UInt64)] : List UInt64) ((List.getD tt 2 0) &&& ~~~ (3 : UInt64)) (List.getD tt 3 0) (0 : UInt64)) ((((List.getD tt 2 0) &&& ~~~ (3 : UInt64)) >>> UInt64.ofNat 2) ||| ((List.getD tt 3 0) <<< UInt64.ofNat 62)) ((List.getD tt 3 0) >>> UInt64.ofNat 2) (0 : UInt64))) 54, .box bk812 (u64s (plusF ([List.getD tt 0 0, List.getD tt 1 0, (List.getD tt 2 0) &&& (3 : UInt64)] : List UInt64) ((List.getD tt 2 0) &&& ~~~ (3 : UInt64)) (List.getD tt 3 0) (0 : UInt64))) 54]) rfl ?_
  intro ac922 wo923  En924 Hv925
  refine from_end (by kernel_rfl) ?_
  refine then_normal ?_
  refine wp_ret ?_
  refine d_cell1 (v := .agg (List.toArray (u64s (plusF (plusF ([List.getD tt 0 0, List.getD tt 1 0, (List.getD tt 2 0) &&& (3 : UInt64)] : List UInt64) ((List.getD tt 2 0) &&& ~~~ (3 : UInt64)) (List.getD tt 3 0) (0 : UInt64)) ((((List.getD tt 2 0) &&& ~~~ (3 : UInt64)) >>> UInt64.ofNat 2) ||| ((List.getD tt 3 0) <<< UInt64.ofNat 62)) ((List.getD tt 3 0) >>> UInt64.ofNat 2) (0 : UInt64))))) (t := 4) (T := 54) (ad := ⟨bk11, 0, none⟩) En924 (by kernel_rfl) (by kernel_rfl) (Ev.cellAgg (t := 54) (k := 3) (off := 0) (m := 3) (xs := u64s (plusF (plusF ([List.getD tt 0 0, List.getD tt 1 0, (List.getD tt 2 0) &&& (3 : UInt64)] : List UInt64) ((List.getD tt 2 0) &&& ~~~ (3 : UInt64)) (List.getD tt 3 0) (0 : UInt64)) ((((List.getD tt 2 0) &&& ~~~ (3 : UInt64)) >>> UInt64.ofNat 2) ||| ((List.getD tt 3 0) <<< UInt64.ofNat 62)) ((List.getD tt 3 0) >>> UInt64.ofNat 2) (0 : UInt64))) Hv925 rfl (load_whole (u64s_lenh (plusF_len _ _ _ _))) (u64s_lenh (plusF_len _ _ _ _)) (by kernel_rfl) (by kernel_rfl)) ?_
  have hf := finF_val hTl (by omega)
  have hfin : dv B64 tt = dv B64 l * dv B64 r := by omega
  exact ⟨finF tt, rfl, Hv925.pick [] (by kernel_rfl) (by decide), rfl, hf.1, by rw [hf.2, hfin]⟩

end Go.Proofs.Ytnahplggflhdaaa
