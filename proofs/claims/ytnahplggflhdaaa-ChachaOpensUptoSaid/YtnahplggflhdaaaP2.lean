/- Layer 9: a product modulo 2^130 - 5. -/
import Derived.Test.YtnahplggflhdaaaP1
namespace Go.Proofs.Ytnahplggflhdaaa
open Go.Dbr
set_option maxRecDepth 100000
set_option maxHeartbeats 2000000
set_option linter.unusedVariables false
set_option linter.unusedSimpArgs false

theorem top_add {t : List UInt64} (hl : t.length = 4) {x y : UInt64} (h : dv B64 t + UInt64.toNat x * UInt64.toNat y * 6277101735386680763835789423207666416102355444464034512896 < 115792089237316195423570985008687907853269984665640564039457584007913129639936) : dv B64 (List.set t 3 (List.getD t 3 0 + x * y)) = dv B64 t + UInt64.toNat x * UInt64.toNat y * 6277101735386680763835789423207666416102355444464034512896 := by
  match t, hl with
  | [a, b, c, d], _ =>
    have h1 := lt64 d
    simp only [List.set_cons_succ, List.set_cons_zero, dv, List.getD, List.getElem?_cons_zero, List.getElem?_cons_succ, Option.getD_some, UInt64.toNat_add, UInt64.toNat_mul] at h ⊢
    generalize x.toNat * y.toNat = z at *
    simp only [B64] at *
    omega
theorem prod_terms {l r : List UInt64} (hl : l.length = 3) (hr : r.length = 2) :
    (List.getD l 0 0).toNat * (List.getD r 0 0).toNat + 18446744073709551616 * ((List.getD l 0 0).toNat * (List.getD r 1 0).toNat) + 18446744073709551616 * ((List.getD l 1 0).toNat * (List.getD r 0 0).toNat) + 340282366920938463463374607431768211456 * ((List.getD l 1 0).toNat * (List.getD r 1 0).toNat) + 340282366920938463463374607431768211456 * ((List.getD l 2 0).toNat * (List.getD r 0 0).toNat) + 6277101735386680763835789423207666416102355444464034512896 * ((List.getD l 2 0).toNat * (List.getD r 1 0).toNat) = dv B64 l * dv B64 r := by
  match l, hl, r, hr with
  | [a, b, c], _, [x, y], _ =>
    simp only [dv, List.getD, List.getElem?_cons_zero, List.getElem?_cons_succ, Option.getD_some, Nat.mul_zero, Nat.add_zero]
    generalize a.toNat = a
    generalize b.toNat = b
    generalize c.toNat = c
    generalize x.toNat = x
    generalize y.toNat = y
    simp only [Nat.add_mul, Nat.mul_add, Nat.mul_assoc]
    simp only [Nat.mul_left_comm a B64, Nat.mul_left_comm b B64, Nat.mul_left_comm c B64]
    generalize a * x = p1
    generalize a * y = p2
    generalize b * x = p3
    generalize b * y = p4
    generalize c * x = p5
    generalize c * y = p6
    simp only [B64]
    omega
def finF (t : List UInt64) : List UInt64 :=
  plusF (plusF [List.getD t 0 0, List.getD t 1 0, List.getD t 2 0 &&& 3] (List.getD t 2 0 &&& ~~~ 3) (List.getD t 3 0) 0) (((List.getD t 2 0 &&& ~~~ 3) >>> UInt64.ofNat 2) ||| (List.getD t 3 0 <<< UInt64.ofNat 62)) (List.getD t 3 0 >>> UInt64.ofNat 2) 0
theorem and3 (x : UInt64) : (x &&& 3).toNat = x.toNat % 4 := by
  rw [UInt64.toNat_and]
  show x.toNat &&& 3 = _
  rw [show (3 : Nat) = 2 ^ 2 - 1 from rfl, Nat.and_two_pow_sub_one_eq_mod]
theorem andnot3 (x : UInt64) : (x &&& ~~~ (3 : UInt64)).toNat = 4 * (x.toNat / 4) := by
  have hx := x.toNat_lt
  show x.toNat &&& 18446744073709551612 = _
  have h1 : (x.toNat &&& 18446744073709551612) % 2 ^ 2 = 0 := by
    rw [Nat.and_mod_two_pow]
    exact Nat.and_zero _
  have h2 : (x.toNat &&& 18446744073709551612) / 2 ^ 2 = x.toNat / 4 := by
    rw [Nat.and_div_two_pow]
    show x.toNat / 4 &&& (2 ^ 62 - 1) = _
    rw [Nat.and_two_pow_sub_one_eq_mod]
    exact Nat.mod_eq_of_lt (by omega)
  omega
theorem shr2 (x : UInt64) : (x >>> UInt64.ofNat 2).toNat = x.toNat / 4 := by
  rw [UInt64.toNat_shiftRight]
  show x.toNat >>> (2 % 64) = _
  rw [Nat.shiftRight_eq_div_pow]
theorem or62 {u x : UInt64} (hu : u.toNat < 4611686018427387904) : (u ||| (x <<< UInt64.ofNat 62)).toNat = u.toNat + (x.toNat % 4) * 4611686018427387904 := by
  rw [UInt64.toNat_or, UInt64.toNat_shiftLeft]
  show u.toNat ||| (x.toNat <<< (62 % 64) % 2 ^ 64) = _
  have e : x.toNat <<< (62 % 64) % 2 ^ 64 = (x.toNat % 4) <<< 62 := by
    rw [Nat.shiftLeft_eq, Nat.shiftLeft_eq]
    have := lt64 x
    show x.toNat * 4611686018427387904 % 18446744073709551616 = x.toNat % 4 * 4611686018427387904
    omega
  rw [e, Nat.or_comm, ← Nat.shiftLeft_add_eq_or_of_lt (by simpa using hu), Nat.shiftLeft_eq]
  omega
theorem finF_val {t : List UInt64} (hl : t.length = 4) (h : dv B64 t < 115792089237316195423570985008687907853269984665640564039457584007913129639936) : dv B64 (finF t) < 2722258935367507707706996859454145691648 ∧ dv B64 (finF t) % 1361129467683753853853498429727072845819 = dv B64 t % 1361129467683753853853498429727072845819 := by
  match t, hl with
  | [a, b, c, d], _ =>
    have e1 : dv B64 [a, b, c &&& 3] = a.toNat + B64 * (b.toNat + B64 * (c.toNat % 4)) := by simp only [dv, and3, Nat.mul_zero, Nat.add_zero]
    have ha := lt64 a; have hb := lt64 b; have hc := lt64 c; have hd := lt64 d
    have e0 : (0 : UInt64).toNat = 0 := rfl
    have p1 := plusF_val (l := [a, b, c &&& 3]) rfl (c &&& ~~~ 3) d 0 (by rw [e1, andnot3, e0]; simp only [B64]; omega)
    have hu : ((c &&& ~~~ 3) >>> UInt64.ofNat 2).toNat = c.toNat / 4 := by rw [shr2, andnot3]; omega
    have ho := or62 (u := (c &&& ~~~ 3) >>> UInt64.ofNat 2) (x := d) (by rw [hu]; omega)
    have p2 := plusF_val (l := plusF [a, b, c &&& 3] (c &&& ~~~ 3) d 0) rfl (((c &&& ~~~ 3) >>> UInt64.ofNat 2) ||| (d <<< UInt64.ofNat 62)) (d >>> UInt64.ofNat 2) 0 (by rw [p1, e1, andnot3, ho, hu, shr2, e0]; simp only [B64]; omega)
    have ef : finF [a, b, c, d] = plusF (plusF [a, b, c &&& 3] (c &&& ~~~ 3) d 0) (((c &&& ~~~ 3) >>> UInt64.ofNat 2) ||| (d <<< UInt64.ofNat 62)) (d >>> UInt64.ofNat 2) 0 := rfl
    rw [ef, p2, p1, e1, andnot3, ho, hu, shr2, e0]
    simp only [dv, B64, Nat.mul_zero, Nat.add_zero] at h ⊢
    constructor
    · omega
    · omega

theorem times_go (w : World) (l : List UInt64) (hl : List.length l = 3) (r : List UInt64) (hr : List.length r = 2) (hb : dv B64 l < 5444517870735015415413993718908291383296) (hrb : dv B64 r < 21267647932558653966460912964485513216) : Calls Try.prog 27 #[.agg (List.toArray (u64s l)), .agg (List.toArray (u64s r))] w fun e w' => ∃ l', e = .returned (.agg (List.toArray (u64s l'))) ∧ Ev w [] w' [] ∧ List.length l' = 3 ∧ dv B64 l' < 2722258935367507707706996859454145691648 ∧ dv B64 l' % 1361129467683753853853498429727072845819 = dv B64 l * dv B64 r % 1361129467683753853853498429727072845819 := by
 have hpt := prod_terms hl hr
 have hlt : dv B64 l * dv B64 r < 115792089237316195423570985008687907853269984665640564039457584007913129639936 := Nat.lt_of_lt_of_le (Nat.mul_lt_mul_of_lt_of_le hb (Nat.le_of_lt hrb) (by decide)) (by decide)
 have hz4 : dv B64 (List.replicate 4 0) = 0 := dv_replicate _ _
 refine d_start [(0, .agg (List.toArray (u64s l))), (1, .agg (List.toArray (u64s r)))] 73 Go.Proofs.Try.func27 Go.Proofs.Try.ntmps27 rfl (by kernel_rfl) (by kernel_rfl) ?_
 intro act0 En0
 have Hv0 : Ev w [] w [] := Ev.refl (Heap.nil _)
 refine wp_seq ?_
 refine region_from ?_
 refine from_op (by kernel_rfl) ?_
 refine op_newbox (d := some 2) (T := 54) (v := .agg (List.toArray (u64s l))) (cs := u64s l) En0 (by kernel_rfl) rfl Hv0 ?_
 intro ac2 wo3 bk1 En4 Hv5
 refine from_op (by kernel_rfl) ?_
 refine op_newbox (d := some 3) (T := 52) (v := .agg (List.toArray (u64s r))) (cs := u64s r) En4 (by kernel_rfl) rfl Hv5 ?_
 intro ac7 wo8 bk6 En9 Hv10
 refine from_op (by kernel_rfl) ?_
 refine op_alloc (d := some 4) (T := 54) (x := .tuple #[]) (z := .agg (List.toArray (u64s (List.replicate 3 0)))) (cs := u64s (List.replicate 3 0)) En9 (by kernel_rfl) (by kernel_rfl) (by kernel_rfl) Hv10 ?_
 intro ac12 wo13 bk11 En14 Hv15
 refine from_end (by kernel_rfl) ?_
 refine then_normal ?_
 refine wp_seq ?_
 refine region_from ?_
 refine from_op (by kernel_rfl) ?_
 refine op_alloc (d := some 5) (T := 65) (x := .tuple #[]) (z := .agg (List.toArray (u64s (List.replicate 4 0)))) (cs := u64s (List.replicate 4 0)) En14 (by kernel_rfl) (by kernel_rfl) (by kernel_rfl) Hv15 ?_
 intro ac17 wo18 bk16 En19 Hv20
 refine from_end (by kernel_rfl) ?_
 refine then_normal ?_
 refine wp_seq ?_
 refine region_from ?_
 refine d_pures [(2, pt bk1), (3, pt bk6), (4, pt bk11), (5, pt bk16), (6, .func (.func 35) #[] #[pt bk16])] [.func (.func 35) #[] #[pt bk16], .func (.func 35) #[] #[pt bk16]] 2 En19 (by kernel_rfl) (by kernel_rfl) rfl ?_
 intro ac21 En22
 refine from_end (by kernel_rfl) ?_
 refine then_normal ?_
 refine wp_seq ?_
 refine wp_seq ?_
 refine region_from ?_
 refine d_pures [(2, pt bk1), (3, pt bk6), (4, pt bk11), (5, pt bk16), (6, .func (.func 35) #[] #[pt bk16]), (13, .int .i64 0)] [.int .i64 0] 1 En22 (by kernel_rfl) (by kernel_rfl) rfl ?_
 intro ac23 En24
 refine from_end (by kernel_rfl) ?_
 refine then_normal ?_
 refine wp_block ?_
 refine loop_enter ?_
 refine loop_once ?_
 refine wp_seq ?_
 refine region_from ?_
 refine d_pures [(2, pt bk1), (3, pt bk6), (4, pt bk11), (5, pt bk16), (6, .func (.func 35) #[] #[pt bk16]), (13, .int .i64 0), (14, .bool true)] [.bool true] 1 En24 (by kernel_rfl) (by kernel_rfl) rfl ?_
 intro ac25 En26
 refine from_end (by kernel_rfl) ?_
 refine then_normal ?_
 refine wp_seq ?_
 refine cond_true En26 (t := true) (by kernel_rfl) rfl ?_
 refine wp_skip ?_
 refine then_normal ?_
 refine wp_seq ?_
 refine wp_block ?_
 refine wp_seq ?_
 refine region_from ?_
 refine d_pures [(2, pt bk1), (3, pt bk6), (4, pt bk11), (5, pt bk16), (6, .func (.func 35) #[] #[pt bk16]), (7, .int .i64 0), (13, .int .i64 0)] [.int .i64 0, .int .i64 0] 2 En26 (by kernel_rfl) (by kernel_rfl) rfl ?_
 intro ac27 En28
 refine from_end (by kernel_rfl) ?_
 refine then_normal ?_
 refine wp_seq ?_
 refine region_from ?_
 refine d_pures [(2, pt bk1), (3, pt bk6), (4, pt bk11), (5, pt bk16), (6, .func (.func 35) #[] #[pt bk16]), (7, .int .i64 0), (13, .int .i64 0), (16, .int .i64 0)] [.int .i64 0] 1 En28 (by kernel_rfl) (by kernel_rfl) rfl ?_
 intro ac29 En30
 refine from_end (by kernel_rfl) ?_
 refine then_normal ?_
 refine wp_block ?_
 refine loop_enter ?_
 refine loop_once ?_
 refine wp_seq ?_
 refine region_from ?_
 refine d_pures [(2, pt bk1), (3, pt bk6), (4, pt bk11), (5, pt bk16), (6, .func (.func 35) #[] #[pt bk16]), (7, .int .i64 0), (13, .int .i64 0), (16, .int .i64 0), (17, .bool true)] [.bool true] 1 En30 (by kernel_rfl) (by kernel_rfl) rfl ?_
 intro ac31 En32
 refine from_end (by kernel_rfl) ?_
 refine then_normal ?_
 refine wp_seq ?_
 refine cond_true En32 (t := true) (by kernel_rfl) rfl ?_
 refine wp_skip ?_
 refine then_normal ?_
 refine wp_seq ?_
 refine wp_block ?_
 refine wp_seq ?_
 refine region_from ?_
 refine d_pures [(2, pt bk1), (3, pt bk6), (4, pt bk11), (5, pt bk16), (6, .func (.func 35) #[] #[pt bk16]), (7, .int .i64 0), (8, .int .i64 0), (13, .int .i64 0), (16, .int .i64 0)] [.int .i64 0, .int .i64 0] 2 En32 (by kernel_rfl) (by kernel_rfl) rfl ?_
 intro ac33 En34
 refine from_end (by kernel_rfl) ?_
 refine then_normal ?_
 refine wp_seq ?_
 refine region_from ?_
 refine d_pures [(2, pt bk1), (3, pt bk6), (4, pt bk11), (5, pt bk16), (6, .func (.func 35) #[] #[pt bk16]), (7, .int .i64 0), (8, .int .i64 0), (13, .int .i64 0), (16, .int .i64 0), (22, .bool true)] [.int .i64 0, .int .i64 0, .int .i64 0, .bool true] 4 En34 (by kernel_rfl) (by kernel_rfl) rfl ?_
 intro ac35 En36
 refine from_end (by kernel_rfl) ?_
 refine then_normal ?_
 refine cond_true En36 (t := true) (by kernel_rfl) rfl ?_
 refine region_cut (F := fun ac wo => ∃ (ltq102 : _), Env ac 73 [(2, pt bk1), (3, pt bk6), (4, pt bk11), (5, pt bk16), (6, .func (.func 35) #[] #[pt bk16]), (7, .int .i64 0), (8, .int .i64 0), (13, .int .i64 0), (16, .int .i64 0)] ∧ Ev w [] wo [.box bk16 (u64s ltq102) 65, .box bk1 (u64s l) 54, .box bk6 (u64s r) 52, .box bk11 (u64s (List.replicate 3 0)) 54] ∧ (List.length ltq102 = 4) ∧ (dv B64 ltq102 = dv B64 (List.replicate 4 0) + UInt64.toNat (List.getD l 0 0) * UInt64.toNat (List.getD r 0 0) * 1)) ?_ ?_
 ·
  refine h_start (fun wv => Ev w [] wv [.box bk1 (u64s l) 54, .box bk6 (u64s r) 52]) [] (by kernel_rfl) 11 (by kernel_rfl) ?_
  have wo37 := Hv20.trans (Ev.drew Hv20.heap)
  refine h_pureR (d := some 23) En36 (v := .func (.func 35) #[] #[pt bk16]) 0 (by kernel_rfl) (by kernel_rfl) rfl (fun _ => wo37.pick [0, 1] (by kernel_rfl) (by decide)) ?_
  intro ac109 En110
  refine h_pureR (d := some 24) En110 (v := .int .i64 0) 1 (by kernel_rfl) (by kernel_rfl) rfl (fun _ => wo37.pick [0, 1] (by kernel_rfl) (by decide)) ?_
  intro ac111 En112
  refine h_pureR (d := some 25) En112 (v := .int .i64 0) 2 (by kernel_rfl) (by kernel_rfl) rfl (fun _ => wo37.pick [0, 1] (by kernel_rfl) (by decide)) ?_
  intro ac113 En114
  refine h_pureR (d := some 26) En114 (v := .int .i64 0) 3 (by kernel_rfl) (by kernel_rfl) rfl (fun _ => wo37.pick [0, 1] (by kernel_rfl) (by decide)) ?_
  intro ac115 En116
  refine h_pureR (d := some 27) En116 (v := .int .i64 0) 4 (by kernel_rfl) (by kernel_rfl) rfl (fun _ => wo37.pick [0, 1] (by kernel_rfl) (by decide)) ?_
  intro ac117 En118
  refine h_free (d := some 28) (s := nv (Instr.indexAt 54 (pt bk1) (.int .i64 0))) En118 (v := pt bk1) 5 (by kernel_rfl) (fun _ => run_nv (Go.Dbr.run_indexarr (e := 49) (sz := 1) (m := 3) (j := 0) (o := 0) (by kernel_rfl) (by kernel_rfl) (by omega) (by omega) (by omega) _)) (by kernel_rfl) rfl (fun _ => wo37.pick [0, 1] (by kernel_rfl) (by decide)) ?_
  intro ac119 En120
  have hb121 : 0 < List.length l := by rw [hl]; omega
  refine h_read (d := some 29) (s := nv (Instr.loadAt 49 (pt bk1))) En120 (v := .int .u64 ((UInt64.toNat (List.getD l 0 0) : Nat) : Int)) 6 (by kernel_rfl) (fun w hS => run_nv (run_load1 (by kernel_rfl) (hS.heap.cell (k := 0) rfl (u64s_getD hb121)))) (by kernel_rfl) rfl (wo37.pick [0, 1] (by kernel_rfl) (by decide)) ?_
  intro ac122 En123
  refine h_pureR (d := some 30) En123 (v := .int .i64 0) 7 (by kernel_rfl) (by kernel_rfl) rfl (fun _ => wo37.pick [0, 1] (by kernel_rfl) (by decide)) ?_
  intro ac124 En125
  refine h_free (d := some 31) (s := nv (Instr.indexAt 52 (pt bk6) (.int .i64 0))) En125 (v := pt bk6) 8 (by kernel_rfl) (fun _ => run_nv (Go.Dbr.run_indexarr (e := 49) (sz := 1) (m := 2) (j := 0) (o := 0) (by kernel_rfl) (by kernel_rfl) (by omega) (by omega) (by omega) _)) (by kernel_rfl) rfl (fun _ => wo37.pick [0, 1] (by kernel_rfl) (by decide)) ?_
  intro ac126 En127
  have hb128 : 0 < List.length r := by rw [hr]; omega
  refine h_read (d := some 32) (s := nv (Instr.loadAt 49 (pt bk6))) En127 (v := .int .u64 ((UInt64.toNat (List.getD r 0 0) : Nat) : Int)) 9 (by kernel_rfl) (fun w hS => run_nv (run_load1 (by kernel_rfl) (hS.heap.cell (k := 1) rfl (u64s_getD hb128)))) (by kernel_rfl) rfl (wo37.pick [0, 1] (by kernel_rfl) (by decide)) ?_
  intro ac129 En130
  refine h_at 10 (by kernel_rfl) rfl ?_
  have hM132 : Heap wo18.drew [.box bk16 (u64s (List.replicate 4 0)) 65] := wo37.heap.pick [3] (by kernel_rfl) (by decide)
  refine op_call (d := some 33) (f := 35) (args := #[.int .i64 0, .int .u64 ((UInt64.toNat (List.getD l 0 0) : Nat) : Int), .int .u64 ((UInt64.toNat (List.getD r 0 0) : Nat) : Int), pt bk16]) En130 (by kernel_rfl) ((mac_go _ bk16 (List.replicate 4 0) (List.length_replicate) 0 1 rfl (List.getD l 0 0) (List.getD r 0 0) (by omega) (by omega) hM132).mono ?_)
  rintro _ wo134 ⟨ltq131, rfl, he137, hlq131, hvq131⟩
  refine ⟨_, rfl, ?_⟩
  intro ac133 En135
  have Hv136 : Ev w [] wo134 [.box bk16 (u64s ltq131) 65, .box bk1 (u64s l) 54, .box bk6 (u64s r) 52, .box bk11 (u64s (List.replicate 3 0)) 54] := wo37.trans (Ev.call (R := [.box bk1 (u64s l) 54, .box bk6 (u64s r) 52, .box bk11 (u64s (List.replicate 3 0)) 54]) wo37.heap [3, 0, 1, 2] (by kernel_rfl) (by decide) he137)
  clear hM132 he137
  refine ⟨fun _ => Hv136.pick [1, 2] (by kernel_rfl) (by decide), ?_⟩
  exact h_end (by kernel_rfl) ⟨ltq131, En135.sub (by kernel_rfl), Hv136.pick [0, 1, 2, 3] (by kernel_rfl) (by decide), hlq131, hvq131⟩
 rintro ac138 wo139 ⟨ltq102, En140, Hv141, hlq102, hvq102⟩
 refine block_normal ?_
 refine then_normal ?_
 refine region_from ?_
 refine d_pures [(2, pt bk1), (3, pt bk6), (4, pt bk11), (5, pt bk16), (6, .func (.func 35) #[] #[pt bk16]), (7, .int .i64 0), (8, .int .i64 0), (13, .int .i64 0), (16, .int .i64 1)] [.int .i64 1, .int .i64 1] 2 En140 (by kernel_rfl) (by kernel_rfl) rfl ?_
 intro ac142 En143
 refine from_end (by kernel_rfl) ?_
 refine then_normal ?_
 refine loop_once ?_
 refine wp_seq ?_
 refine region_from ?_
 refine d_pures [(2, pt bk1), (3, pt bk6), (4, pt bk11), (5, pt bk16), (6, .func (.func 35) #[] #[pt bk16]), (7, .int .i64 0), (8, .int .i64 0), (13, .int .i64 0), (16, .int .i64 1), (17, .bool true)] [.bool true] 1 En143 (by kernel_rfl) (by kernel_rfl) rfl ?_
 intro ac144 En145
 refine from_end (by kernel_rfl) ?_
 refine then_normal ?_
 refine wp_seq ?_
 refine cond_true En145 (t := true) (by kernel_rfl) rfl ?_
 refine wp_skip ?_
 refine then_normal ?_
 refine wp_seq ?_
 refine wp_block ?_
 refine wp_seq ?_
 refine region_from ?_
 refine d_pures [(2, pt bk1), (3, pt bk6), (4, pt bk11), (5, pt bk16), (6, .func (.func 35) #[] #[pt bk16]), (7, .int .i64 0), (8, .int .i64 1), (13, .int .i64 0), (16, .int .i64 1)] [.int .i64 1, .int .i64 1] 2 En145 (by kernel_rfl) (by kernel_rfl) rfl ?_
 intro ac146 En147
 refine from_end (by kernel_rfl) ?_
 refine then_normal ?_
 refine wp_seq ?_
 refine region_from ?_
 refine d_pures [(2, pt bk1), (3, pt bk6), (4, pt bk11), (5, pt bk16), (6, .func (.func 35) #[] #[pt bk16]), (7, .int .i64 0), (8, .int .i64 1), (13, .int .i64 0), (16, .int .i64 1), (22, .bool true)] [.int .i64 0, .int .i64 1, .int .i64 1, .bool true] 4 En147 (by kernel_rfl) (by kernel_rfl) rfl ?_
 intro ac148 En149
 refine from_end (by kernel_rfl) ?_
 refine then_normal ?_
 refine cond_true En149 (t := true) (by kernel_rfl) rfl ?_
 refine region_cut (F := fun ac wo => ∃ (ltq215 : _), Env ac 73 [(2, pt bk1), (3, pt bk6), (4, pt bk11), (5, pt bk16), (6, .func (.func 35) #[] #[pt bk16]), (7, .int .i64 0), (8, .int .i64 1), (13, .int .i64 0), (16, .int .i64 1)] ∧ Ev w [] wo [.box bk16 (u64s ltq215) 65, .box bk1 (u64s l) 54, .box bk6 (u64s r) 52, .box bk11 (u64s (List.replicate 3 0)) 54] ∧ (List.length ltq215 = 4) ∧ (dv B64 ltq215 = dv B64 ltq102 + UInt64.toNat (List.getD l 0 0) * UInt64.toNat (List.getD r 1 0) * 18446744073709551616)) ?_ ?_
 ·
  refine h_start (fun wv => Ev w [] wv [.box bk1 (u64s l) 54, .box bk6 (u64s r) 52]) [] (by kernel_rfl) 11 (by kernel_rfl) ?_
  have wo150 := Hv141.trans (Ev.drew Hv141.heap)
  refine h_pureR (d := some 23) En149 (v := .func (.func 35) #[] #[pt bk16]) 0 (by kernel_rfl) (by kernel_rfl) rfl (fun _ => wo150.pick [1, 2] (by kernel_rfl) (by decide)) ?_
  intro ac222 En223
  refine h_pureR (d := some 24) En223 (v := .int .i64 0) 1 (by kernel_rfl) (by kernel_rfl) rfl (fun _ => wo150.pick [1, 2] (by kernel_rfl) (by decide)) ?_
  intro ac224 En225
  refine h_pureR (d := some 25) En225 (v := .int .i64 1) 2 (by kernel_rfl) (by kernel_rfl) rfl (fun _ => wo150.pick [1, 2] (by kernel_rfl) (by decide)) ?_
  intro ac226 En227
  refine h_pureR (d := some 26) En227 (v := .int .i64 1) 3 (by kernel_rfl) (by kernel_rfl) rfl (fun _ => wo150.pick [1, 2] (by kernel_rfl) (by decide)) ?_
  intro ac228 En229
  refine h_pureR (d := some 27) En229 (v := .int .i64 0) 4 (by kernel_rfl) (by kernel_rfl) rfl (fun _ => wo150.pick [1, 2] (by kernel_rfl) (by decide)) ?_
  intro ac230 En231
  refine h_free (d := some 28) (s := nv (Instr.indexAt 54 (pt bk1) (.int .i64 0))) En231 (v := pt bk1) 5 (by kernel_rfl) (fun _ => run_nv (Go.Dbr.run_indexarr (e := 49) (sz := 1) (m := 3) (j := 0) (o := 0) (by kernel_rfl) (by kernel_rfl) (by omega) (by omega) (by omega) _)) (by kernel_rfl) rfl (fun _ => wo150.pick [1, 2] (by kernel_rfl) (by decide)) ?_
  intro ac232 En233
  have hb234 : 0 < List.length l := by rw [hl]; omega
  refine h_read (d := some 29) (s := nv (Instr.loadAt 49 (pt bk1))) En233 (v := .int .u64 ((UInt64.toNat (List.getD l 0 0) : Nat) : Int)) 6 (by kernel_rfl) (fun w hS => run_nv (run_load1 (by kernel_rfl) (hS.heap.cell (k := 0) rfl (u64s_getD hb234)))) (by kernel_rfl) rfl (wo150.pick [1, 2] (by kernel_rfl) (by decide)) ?_
  intro ac235 En236
  refine h_pureR (d := some 30) En236 (v := .int .i64 1) 7 (by kernel_rfl) (by kernel_rfl) rfl (fun _ => wo150.pick [1, 2] (by kernel_rfl) (by decide)) ?_
  intro ac237 En238
  refine h_free (d := some 31) (s := nv (Instr.indexAt 52 (pt bk6) (.int .i64 1))) En238 (v := .pointer (some ⟨bk6, 1, none⟩)) 8 (by kernel_rfl) (fun _ => run_nv (Go.Dbr.run_indexarr (e := 49) (sz := 1) (m := 2) (j := 1) (o := 1) (by kernel_rfl) (by kernel_rfl) (by omega) (by omega) (by omega) _)) (by kernel_rfl) rfl (fun _ => wo150.pick [1, 2] (by kernel_rfl) (by decide)) ?_
  intro ac239 En240
  have hb241 : 1 < List.length r := by rw [hr]; omega
  refine h_read (d := some 32) (s := nv (Instr.loadAt 49 (.pointer (some ⟨bk6, 1, none⟩)))) En240 (v := .int .u64 ((UInt64.toNat (List.getD r 1 0) : Nat) : Int)) 9 (by kernel_rfl) (fun w hS => run_nv (run_load1 (by kernel_rfl) (hS.heap.cell (k := 1) rfl (u64s_getD hb241)))) (by kernel_rfl) rfl (wo150.pick [1, 2] (by kernel_rfl) (by decide)) ?_
  intro ac242 En243
  refine h_at 10 (by kernel_rfl) rfl ?_
  have hM245 : Heap wo139.drew [.box bk16 (u64s ltq102) 65] := wo150.heap.pick [0] (by kernel_rfl) (by decide)
  refine op_call (d := some 33) (f := 35) (args := #[.int .i64 1, .int .u64 ((UInt64.toNat (List.getD l 0 0) : Nat) : Int), .int .u64 ((UInt64.toNat (List.getD r 1 0) : Nat) : Int), pt bk16]) En243 (by kernel_rfl) ((mac_go _ bk16 ltq102 hlq102 1 18446744073709551616 rfl (List.getD l 0 0) (List.getD r 1 0) (by omega) (by omega) hM245).mono ?_)
  rintro _ wo247 ⟨ltq244, rfl, he250, hlq244, hvq244⟩
  refine ⟨_, rfl, ?_⟩
  intro ac246 En248
  have Hv249 : Ev w [] wo247 [.box bk16 (u64s ltq244) 65, .box bk1 (u64s l) 54, .box bk6 (u64s r) 52, .box bk11 (u64s (List.replicate 3 0)) 54] := wo150.trans (Ev.call (R := [.box bk1 (u64s l) 54, .box bk6 (u64s r) 52, .box bk11 (u64s (List.replicate 3 0)) 54]) wo150.heap [0, 1, 2, 3] (by kernel_rfl) (by decide) he250)
  clear hM245 he250
  refine ⟨fun _ => Hv249.pick [1, 2] (by kernel_rfl) (by decide), ?_⟩
  exact h_end (by kernel_rfl) ⟨ltq244, En248.sub (by kernel_rfl), Hv249.pick [0, 1, 2, 3] (by kernel_rfl) (by decide), hlq244, hvq244⟩
 rintro ac251 wo252 ⟨ltq215, En253, Hv254, hlq215, hvq215⟩
 refine block_normal ?_
 refine then_normal ?_
 refine region_from ?_
 refine d_pures [(2, pt bk1), (3, pt bk6), (4, pt bk11), (5, pt bk16), (6, .func (.func 35) #[] #[pt bk16]), (7, .int .i64 0), (8, .int .i64 1), (13, .int .i64 0), (16, .int .i64 2)] [.int .i64 2, .int .i64 2] 2 En253 (by kernel_rfl) (by kernel_rfl) rfl ?_
 intro ac255 En256
 refine from_end (by kernel_rfl) ?_
 refine then_normal ?_
 refine loop_once ?_
 refine wp_seq ?_
 refine region_from ?_
 refine d_pures [(2, pt bk1), (3, pt bk6), (4, pt bk11), (5, pt bk16), (6, .func (.func 35) #[] #[pt bk16]), (7, .int .i64 0), (8, .int .i64 1), (13, .int .i64 0), (16, .int .i64 2), (17, .bool false)] [.bool false] 1 En256 (by kernel_rfl) (by kernel_rfl) rfl ?_
 intro ac257 En258
 refine from_end (by kernel_rfl) ?_
 refine then_normal ?_
 refine wp_seq ?_
 refine cond_false En258 (t := false) (by kernel_rfl) rfl ?_
 refine wp_exit ?_
 refine then_exit ?_
 refine then_exit ?_
 refine block_exit ?_
 refine block_normal ?_
 refine then_normal ?_
 refine region_from ?_
 refine d_pures [(2, pt bk1), (3, pt bk6), (4, pt bk11), (5, pt bk16), (6, .func (.func 35) #[] #[pt bk16]), (7, .int .i64 0), (8, .int .i64 1), (13, .int .i64 1), (16, .int .i64 2)] [.int .i64 1, .int .i64 1] 2 En258 (by kernel_rfl) (by kernel_rfl) rfl ?_
 intro ac259 En260
 refine from_end (by kernel_rfl) ?_
 refine then_normal ?_
 refine loop_once ?_
 refine wp_seq ?_
 refine region_from ?_
 refine d_pures [(2, pt bk1), (3, pt bk6), (4, pt bk11), (5, pt bk16), (6, .func (.func 35) #[] #[pt bk16]), (7, .int .i64 0), (8, .int .i64 1), (13, .int .i64 1), (14, .bool true), (16, .int .i64 2)] [.bool true] 1 En260 (by kernel_rfl) (by kernel_rfl) rfl ?_
 intro ac261 En262
 refine from_end (by kernel_rfl) ?_
 refine then_normal ?_
 refine wp_seq ?_
 refine cond_true En262 (t := true) (by kernel_rfl) rfl ?_
 refine wp_skip ?_
 refine then_normal ?_
 refine wp_seq ?_
 refine wp_block ?_
 refine wp_seq ?_
 refine region_from ?_
 refine d_pures [(2, pt bk1), (3, pt bk6), (4, pt bk11), (5, pt bk16), (6, .func (.func 35) #[] #[pt bk16]), (7, .int .i64 1), (8, .int .i64 1), (13, .int .i64 1), (16, .int .i64 2)] [.int .i64 1, .int .i64 1] 2 En262 (by kernel_rfl) (by kernel_rfl) rfl ?_
 intro ac263 En264
 refine from_end (by kernel_rfl) ?_
 refine then_normal ?_
 refine wp_seq ?_
 refine region_from ?_
 refine d_pures [(2, pt bk1), (3, pt bk6), (4, pt bk11), (5, pt bk16), (6, .func (.func 35) #[] #[pt bk16]), (7, .int .i64 1), (8, .int .i64 1), (13, .int .i64 1), (16, .int .i64 0)] [.int .i64 0] 1 En264 (by kernel_rfl) (by kernel_rfl) rfl ?_
 intro ac265 En266
 refine from_end (by kernel_rfl) ?_
 refine then_normal ?_
 refine wp_block ?_
 refine loop_enter ?_
 refine loop_once ?_
 refine wp_seq ?_
 refine region_from ?_
 refine d_pures [(2, pt bk1), (3, pt bk6), (4, pt bk11), (5, pt bk16), (6, .func (.func 35) #[] #[pt bk16]), (7, .int .i64 1), (8, .int .i64 1), (13, .int .i64 1), (16, .int .i64 0), (17, .bool true)] [.bool true] 1 En266 (by kernel_rfl) (by kernel_rfl) rfl ?_
 intro ac267 En268
 refine from_end (by kernel_rfl) ?_
 refine then_normal ?_
 refine wp_seq ?_
 refine cond_true En268 (t := true) (by kernel_rfl) rfl ?_
 refine wp_skip ?_
 refine then_normal ?_
 refine wp_seq ?_
 refine wp_block ?_
 refine wp_seq ?_
 refine region_from ?_
 refine d_pures [(2, pt bk1), (3, pt bk6), (4, pt bk11), (5, pt bk16), (6, .func (.func 35) #[] #[pt bk16]), (7, .int .i64 1), (8, .int .i64 0), (13, .int .i64 1), (16, .int .i64 0)] [.int .i64 0, .int .i64 0] 2 En268 (by kernel_rfl) (by kernel_rfl) rfl ?_
 intro ac269 En270
 refine from_end (by kernel_rfl) ?_
 refine then_normal ?_
 refine wp_seq ?_
 refine region_from ?_
 refine d_pures [(2, pt bk1), (3, pt bk6), (4, pt bk11), (5, pt bk16), (6, .func (.func 35) #[] #[pt bk16]), (7, .int .i64 1), (8, .int .i64 0), (13, .int .i64 1), (16, .int .i64 0), (22, .bool true)] [.int .i64 1, .int .i64 0, .int .i64 1, .bool true] 4 En270 (by kernel_rfl) (by kernel_rfl) rfl ?_
 intro ac271 En272
 refine from_end (by kernel_rfl) ?_
 refine then_normal ?_
 refine cond_true En272 (t := true) (by kernel_rfl) rfl ?_
 refine region_cut (F := fun ac wo => ∃ (ltq338 : _), Env ac 73 [(2, pt bk1), (3, pt bk6), (4, pt bk11), (5, pt bk16), (6, .func (.func 35) #[] #[pt bk16]), (7, .int .i64 1), (8, .int .i64 0), (13, .int .i64 1), (16, .int .i64 0)] ∧ Ev w [] wo [.box bk16 (u64s ltq338) 65, .box bk1 (u64s l) 54, .box bk6 (u64s r) 52, .box bk11 (u64s (List.replicate 3 0)) 54] ∧ (List.length ltq338 = 4) ∧ (dv B64 ltq338 = dv B64 ltq215 + UInt64.toNat (List.getD l 1 0) * UInt64.toNat (List.getD r 0 0) * 18446744073709551616)) ?_ ?_
 ·
  refine h_start (fun wv => Ev w [] wv [.box bk1 (u64s l) 54, .box bk6 (u64s r) 52]) [] (by kernel_rfl) 11 (by kernel_rfl) ?_
  have wo273 := Hv254.trans (Ev.drew Hv254.heap)
  refine h_pureR (d := some 23) En272 (v := .func (.func 35) #[] #[pt bk16]) 0 (by kernel_rfl) (by kernel_rfl) rfl (fun _ => wo273.pick [1, 2] (by kernel_rfl) (by decide)) ?_
  intro ac345 En346
  refine h_pureR (d := some 24) En346 (v := .int .i64 1) 1 (by kernel_rfl) (by kernel_rfl) rfl (fun _ => wo273.pick [1, 2] (by kernel_rfl) (by decide)) ?_
  intro ac347 En348
  refine h_pureR (d := some 25) En348 (v := .int .i64 0) 2 (by kernel_rfl) (by kernel_rfl) rfl (fun _ => wo273.pick [1, 2] (by kernel_rfl) (by decide)) ?_
  intro ac349 En350
  refine h_pureR (d := some 26) En350 (v := .int .i64 1) 3 (by kernel_rfl) (by kernel_rfl) rfl (fun _ => wo273.pick [1, 2] (by kernel_rfl) (by decide)) ?_
  intro ac351 En352
  refine h_pureR (d := some 27) En352 (v := .int .i64 1) 4 (by kernel_rfl) (by kernel_rfl) rfl (fun _ => wo273.pick [1, 2] (by kernel_rfl) (by decide)) ?_
  intro ac353 En354
  refine h_free (d := some 28) (s := nv (Instr.indexAt 54 (pt bk1) (.int .i64 1))) En354 (v := .pointer (some ⟨bk1, 1, none⟩)) 5 (by kernel_rfl) (fun _ => run_nv (Go.Dbr.run_indexarr (e := 49) (sz := 1) (m := 3) (j := 1) (o := 1) (by kernel_rfl) (by kernel_rfl) (by omega) (by omega) (by omega) _)) (by kernel_rfl) rfl (fun _ => wo273.pick [1, 2] (by kernel_rfl) (by decide)) ?_
  intro ac355 En356
  have hb357 : 1 < List.length l := by rw [hl]; omega
  refine h_read (d := some 29) (s := nv (Instr.loadAt 49 (.pointer (some ⟨bk1, 1, none⟩)))) En356 (v := .int .u64 ((UInt64.toNat (List.getD l 1 0) : Nat) : Int)) 6 (by kernel_rfl) (fun w hS => run_nv (run_load1 (by kernel_rfl) (hS.heap.cell (k := 0) rfl (u64s_getD hb357)))) (by kernel_rfl) rfl (wo273.pick [1, 2] (by kernel_rfl) (by decide)) ?_
  intro ac358 En359
  refine h_pureR (d := some 30) En359 (v := .int .i64 0) 7 (by kernel_rfl) (by kernel_rfl) rfl (fun _ => wo273.pick [1, 2] (by kernel_rfl) (by decide)) ?_
  intro ac360 En361
  refine h_free (d := some 31) (s := nv (Instr.indexAt 52 (pt bk6) (.int .i64 0))) En361 (v := pt bk6) 8 (by kernel_rfl) (fun _ => run_nv (Go.Dbr.run_indexarr (e := 49) (sz := 1) (m := 2) (j := 0) (o := 0) (by kernel_rfl) (by kernel_rfl) (by omega) (by omega) (by omega) _)) (by kernel_rfl) rfl (fun _ => wo273.pick [1, 2] (by kernel_rfl) (by decide)) ?_
  intro ac362 En363
  have hb364 : 0 < List.length r := by rw [hr]; omega
  refine h_read (d := some 32) (s := nv (Instr.loadAt 49 (pt bk6))) En363 (v := .int .u64 ((UInt64.toNat (List.getD r 0 0) : Nat) : Int)) 9 (by kernel_rfl) (fun w hS => run_nv (run_load1 (by kernel_rfl) (hS.heap.cell (k := 1) rfl (u64s_getD hb364)))) (by kernel_rfl) rfl (wo273.pick [1, 2] (by kernel_rfl) (by decide)) ?_
  intro ac365 En366
  refine h_at 10 (by kernel_rfl) rfl ?_
  have hM368 : Heap wo252.drew [.box bk16 (u64s ltq215) 65] := wo273.heap.pick [0] (by kernel_rfl) (by decide)
  refine op_call (d := some 33) (f := 35) (args := #[.int .i64 1, .int .u64 ((UInt64.toNat (List.getD l 1 0) : Nat) : Int), .int .u64 ((UInt64.toNat (List.getD r 0 0) : Nat) : Int), pt bk16]) En366 (by kernel_rfl) ((mac_go _ bk16 ltq215 hlq215 1 18446744073709551616 rfl (List.getD l 1 0) (List.getD r 0 0) (by omega) (by omega) hM368).mono ?_)
  rintro _ wo370 ⟨ltq367, rfl, he373, hlq367, hvq367⟩
  refine ⟨_, rfl, ?_⟩
  intro ac369 En371
  have Hv372 : Ev w [] wo370 [.box bk16 (u64s ltq367) 65, .box bk1 (u64s l) 54, .box bk6 (u64s r) 52, .box bk11 (u64s (List.replicate 3 0)) 54] := wo273.trans (Ev.call (R := [.box bk1 (u64s l) 54, .box bk6 (u64s r) 52, .box bk11 (u64s (List.replicate 3 0)) 54]) wo273.heap [0, 1, 2, 3] (by kernel_rfl) (by decide) he373)
  clear hM368 he373
  refine ⟨fun _ => Hv372.pick [1, 2] (by kernel_rfl) (by decide), ?_⟩
  exact h_end (by kernel_rfl) ⟨ltq367, En371.sub (by kernel_rfl), Hv372.pick [0, 1, 2, 3] (by kernel_rfl) (by decide), hlq367, hvq367⟩
 rintro ac374 wo375 ⟨ltq338, En376, Hv377, hlq338, hvq338⟩
 refine block_normal ?_
 refine then_normal ?_
 refine region_from ?_
 refine d_pures [(2, pt bk1), (3, pt bk6), (4, pt bk11), (5, pt bk16), (6, .func (.func 35) #[] #[pt bk16]), (7, .int .i64 1), (8, .int .i64 0), (13, .int .i64 1), (16, .int .i64 1)] [.int .i64 1, .int .i64 1] 2 En376 (by kernel_rfl) (by kernel_rfl) rfl ?_
 intro ac378 En379
 refine from_end (by kernel_rfl) ?_
 refine then_normal ?_
 refine loop_once ?_
 refine wp_seq ?_
 refine region_from ?_
 refine d_pures [(2, pt bk1), (3, pt bk6), (4, pt bk11), (5, pt bk16), (6, .func (.func 35) #[] #[pt bk16]), (7, .int .i64 1), (8, .int .i64 0), (13, .int .i64 1), (16, .int .i64 1), (17, .bool true)] [.bool true] 1 En379 (by kernel_rfl) (by kernel_rfl) rfl ?_
 intro ac380 En381
 refine from_end (by kernel_rfl) ?_
 refine then_normal ?_
 refine wp_seq ?_
 refine cond_true En381 (t := true) (by kernel_rfl) rfl ?_
 refine wp_skip ?_
 refine then_normal ?_
 refine wp_seq ?_
 refine wp_block ?_
 refine wp_seq ?_
 refine region_from ?_
 refine d_pures [(2, pt bk1), (3, pt bk6), (4, pt bk11), (5, pt bk16), (6, .func (.func 35) #[] #[pt bk16]), (7, .int .i64 1), (8, .int .i64 1), (13, .int .i64 1), (16, .int .i64 1)] [.int .i64 1, .int .i64 1] 2 En381 (by kernel_rfl) (by kernel_rfl) rfl ?_
 intro ac382 En383
 refine from_end (by kernel_rfl) ?_
 refine then_normal ?_
 refine wp_seq ?_
 refine region_from ?_
 refine d_pures [(2, pt bk1), (3, pt bk6), (4, pt bk11), (5, pt bk16), (6, .func (.func 35) #[] #[pt bk16]), (7, .int .i64 1), (8, .int .i64 1), (13, .int .i64 1), (16, .int .i64 1), (22, .bool true)] [.int .i64 1, .int .i64 1, .int .i64 2, .bool true] 4 En383 (by kernel_rfl) (by kernel_rfl) rfl ?_
 intro ac384 En385
 refine from_end (by kernel_rfl) ?_
 refine then_normal ?_
 refine cond_true En385 (t := true) (by kernel_rfl) rfl ?_
 refine region_cut (F := fun ac wo => ∃ (ltq451 : _), Env ac 73 [(2, pt bk1), (3, pt bk6), (4, pt bk11), (5, pt bk16), (6, .func (.func 35) #[] #[pt bk16]), (7, .int .i64 1), (8, .int .i64 1), (13, .int .i64 1), (16, .int .i64 1)] ∧ Ev w [] wo [.box bk16 (u64s ltq451) 65, .box bk1 (u64s l) 54, .box bk6 (u64s r) 52, .box bk11 (u64s (List.replicate 3 0)) 54] ∧ (List.length ltq451 = 4) ∧ (dv B64 ltq451 = dv B64 ltq338 + UInt64.toNat (List.getD l 1 0) * UInt64.toNat (List.getD r 1 0) * 340282366920938463463374607431768211456)) ?_ ?_
 ·
  refine h_start (fun wv => Ev w [] wv [.box bk1 (u64s l) 54, .box bk6 (u64s r) 52]) [] (by kernel_rfl) 11 (by kernel_rfl) ?_
  have wo386 := Hv377.trans (Ev.drew Hv377.heap)
  refine h_pureR (d := some 23) En385 (v := .func (.func 35) #[] #[pt bk16]) 0 (by kernel_rfl) (by kernel_rfl) rfl (fun _ => wo386.pick [1, 2] (by kernel_rfl) (by decide)) ?_
  intro ac458 En459
  refine h_pureR (d := some 24) En459 (v := .int .i64 1) 1 (by kernel_rfl) (by kernel_rfl) rfl (fun _ => wo386.pick [1, 2] (by kernel_rfl) (by decide)) ?_
  intro ac460 En461
  refine h_pureR (d := some 25) En461 (v := .int .i64 1) 2 (by kernel_rfl) (by kernel_rfl) rfl (fun _ => wo386.pick [1, 2] (by kernel_rfl) (by decide)) ?_
  intro ac462 En463
  refine h_pureR (d := some 26) En463 (v := .int .i64 2) 3 (by kernel_rfl) (by kernel_rfl) rfl (fun _ => wo386.pick [1, 2] (by kernel_rfl) (by decide)) ?_
  intro ac464 En465
  refine h_pureR (d := some 27) En465 (v := .int .i64 1) 4 (by kernel_rfl) (by kernel_rfl) rfl (fun _ => wo386.pick [1, 2] (by kernel_rfl) (by decide)) ?_
  intro ac466 En467
  refine h_free (d := some 28) (s := nv (Instr.indexAt 54 (pt bk1) (.int .i64 1))) En467 (v := .pointer (some ⟨bk1, 1, none⟩)) 5 (by kernel_rfl) (fun _ => run_nv (Go.Dbr.run_indexarr (e := 49) (sz := 1) (m := 3) (j := 1) (o := 1) (by kernel_rfl) (by kernel_rfl) (by omega) (by omega) (by omega) _)) (by kernel_rfl) rfl (fun _ => wo386.pick [1, 2] (by kernel_rfl) (by decide)) ?_
  intro ac468 En469
  have hb470 : 1 < List.length l := by rw [hl]; omega
  refine h_read (d := some 29) (s := nv (Instr.loadAt 49 (.pointer (some ⟨bk1, 1, none⟩)))) En469 (v := .int .u64 ((UInt64.toNat (List.getD l 1 0) : Nat) : Int)) 6 (by kernel_rfl) (fun w hS => run_nv (run_load1 (by kernel_rfl) (hS.heap.cell (k := 0) rfl (u64s_getD hb470)))) (by kernel_rfl) rfl (wo386.pick [1, 2] (by kernel_rfl) (by decide)) ?_
  intro ac471 En472
  refine h_pureR (d := some 30) En472 (v := .int .i64 1) 7 (by kernel_rfl) (by kernel_rfl) rfl (fun _ => wo386.pick [1, 2] (by kernel_rfl) (by decide)) ?_
  intro ac473 En474
  refine h_free (d := some 31) (s := nv (Instr.indexAt 52 (pt bk6) (.int .i64 1))) En474 (v := .pointer (some ⟨bk6, 1, none⟩)) 8 (by kernel_rfl) (fun _ => run_nv (Go.Dbr.run_indexarr (e := 49) (sz := 1) (m := 2) (j := 1) (o := 1) (by kernel_rfl) (by kernel_rfl) (by omega) (by omega) (by omega) _)) (by kernel_rfl) rfl (fun _ => wo386.pick [1, 2] (by kernel_rfl) (by decide)) ?_
  intro ac475 En476
  have hb477 : 1 < List.length r := by rw [hr]; omega
  refine h_read (d := some 32) (s := nv (Instr.loadAt 49 (.pointer (some ⟨bk6, 1, none⟩)))) En476 (v := .int .u64 ((UInt64.toNat (List.getD r 1 0) : Nat) : Int)) 9 (by kernel_rfl) (fun w hS => run_nv (run_load1 (by kernel_rfl) (hS.heap.cell (k := 1) rfl (u64s_getD hb477)))) (by kernel_rfl) rfl (wo386.pick [1, 2] (by kernel_rfl) (by decide)) ?_
  intro ac478 En479
  refine h_at 10 (by kernel_rfl) rfl ?_
  have hM481 : Heap wo375.drew [.box bk16 (u64s ltq338) 65] := wo386.heap.pick [0] (by kernel_rfl) (by decide)
  refine op_call (d := some 33) (f := 35) (args := #[.int .i64 2, .int .u64 ((UInt64.toNat (List.getD l 1 0) : Nat) : Int), .int .u64 ((UInt64.toNat (List.getD r 1 0) : Nat) : Int), pt bk16]) En479 (by kernel_rfl) ((mac_go _ bk16 ltq338 hlq338 2 340282366920938463463374607431768211456 rfl (List.getD l 1 0) (List.getD r 1 0) (by omega) (by omega) hM481).mono ?_)
  rintro _ wo483 ⟨ltq480, rfl, he486, hlq480, hvq480⟩
  refine ⟨_, rfl, ?_⟩
  intro ac482 En484
  have Hv485 : Ev w [] wo483 [.box bk16 (u64s ltq480) 65, .box bk1 (u64s l) 54, .box bk6 (u64s r) 52, .box bk11 (u64s (List.replicate 3 0)) 54] := wo386.trans (Ev.call (R := [.box bk1 (u64s l) 54, .box bk6 (u64s r) 52, .box bk11 (u64s (List.replicate 3 0)) 54]) wo386.heap [0, 1, 2, 3] (by kernel_rfl) (by decide) he486)
  clear hM481 he486
  refine ⟨fun _ => Hv485.pick [1, 2] (by kernel_rfl) (by decide), ?_⟩
  exact h_end (by kernel_rfl) ⟨ltq480, En484.sub (by kernel_rfl), Hv485.pick [0, 1, 2, 3] (by kernel_rfl) (by decide), hlq480, hvq480⟩
 rintro ac487 wo488 ⟨ltq451, En489, Hv490, hlq451, hvq451⟩
 refine block_normal ?_
 refine then_normal ?_
 refine region_from ?_
 refine d_pures [(2, pt bk1), (3, pt bk6), (4, pt bk11), (5, pt bk16), (6, .func (.func 35) #[] #[pt bk16]), (7, .int .i64 1), (8, .int .i64 1), (13, .int .i64 1), (16, .int .i64 2)] [.int .i64 2, .int .i64 2] 2 En489 (by kernel_rfl) (by kernel_rfl) rfl ?_
 intro ac491 En492
 refine from_end (by kernel_rfl) ?_
 refine then_normal ?_
 refine loop_once ?_
 refine wp_seq ?_
 refine region_from ?_
 refine d_pures [(2, pt bk1), (3, pt bk6), (4, pt bk11), (5, pt bk16), (6, .func (.func 35) #[] #[pt bk16]), (7, .int .i64 1), (8, .int .i64 1), (13, .int .i64 1), (16, .int .i64 2), (17, .bool false)] [.bool false] 1 En492 (by kernel_rfl) (by kernel_rfl) rfl ?_
 intro ac493 En494
 refine from_end (by kernel_rfl) ?_
 refine then_normal ?_
 refine wp_seq ?_
 refine cond_false En494 (t := false) (by kernel_rfl) rfl ?_
 refine wp_exit ?_
 refine then_exit ?_
 refine then_exit ?_
 refine block_exit ?_
 refine block_normal ?_
 refine then_normal ?_
 refine region_from ?_
 refine d_pures [(2, pt bk1), (3, pt bk6), (4, pt bk11), (5, pt bk16), (6, .func (.func 35) #[] #[pt bk16]), (7, .int .i64 1), (8, .int .i64 1), (13, .int .i64 2), (16, .int .i64 2)] [.int .i64 2, .int .i64 2] 2 En494 (by kernel_rfl) (by kernel_rfl) rfl ?_
 intro ac495 En496
 refine from_end (by kernel_rfl) ?_
 refine then_normal ?_
 refine loop_once ?_
 refine wp_seq ?_
 refine region_from ?_
 refine d_pures [(2, pt bk1), (3, pt bk6), (4, pt bk11), (5, pt bk16), (6, .func (.func 35) #[] #[pt bk16]), (7, .int .i64 1), (8, .int .i64 1), (13, .int .i64 2), (14, .bool true), (16, .int .i64 2)] [.bool true] 1 En496 (by kernel_rfl) (by kernel_rfl) rfl ?_
 intro ac497 En498
 refine from_end (by kernel_rfl) ?_
 refine then_normal ?_
 refine wp_seq ?_
 refine cond_true En498 (t := true) (by kernel_rfl) rfl ?_
 refine wp_skip ?_
 refine then_normal ?_
 refine wp_seq ?_
 refine wp_block ?_
 refine wp_seq ?_
 refine region_from ?_
 refine d_pures [(2, pt bk1), (3, pt bk6), (4, pt bk11), (5, pt bk16), (6, .func (.func 35) #[] #[pt bk16]), (7, .int .i64 2), (8, .int .i64 1), (13, .int .i64 2), (16, .int .i64 2)] [.int .i64 2, .int .i64 2] 2 En498 (by kernel_rfl) (by kernel_rfl) rfl ?_
 intro ac499 En500
 refine from_end (by kernel_rfl) ?_
 refine then_normal ?_
 refine wp_seq ?_
 refine region_from ?_
 refine d_pures [(2, pt bk1), (3, pt bk6), (4, pt bk11), (5, pt bk16), (6, .func (.func 35) #[] #[pt bk16]), (7, .int .i64 2), (8, .int .i64 1), (13, .int .i64 2), (16, .int .i64 0)] [.int .i64 0] 1 En500 (by kernel_rfl) (by kernel_rfl) rfl ?_
 intro ac501 En502
 refine from_end (by kernel_rfl) ?_
 refine then_normal ?_
 refine wp_block ?_
 refine loop_enter ?_
 refine loop_once ?_
 refine wp_seq ?_
 refine region_from ?_
 refine d_pures [(2, pt bk1), (3, pt bk6), (4, pt bk11), (5, pt bk16), (6, .func (.func 35) #[] #[pt bk16]), (7, .int .i64 2), (8, .int .i64 1), (13, .int .i64 2), (16, .int .i64 0), (17, .bool true)] [.bool true] 1 En502 (by kernel_rfl) (by kernel_rfl) rfl ?_
 intro ac503 En504
 refine from_end (by kernel_rfl) ?_
 refine then_normal ?_
 refine wp_seq ?_
 refine cond_true En504 (t := true) (by kernel_rfl) rfl ?_
 refine wp_skip ?_
 refine then_normal ?_
 refine wp_seq ?_
 refine wp_block ?_
 refine wp_seq ?_
 refine region_from ?_
 refine d_pures [(2, pt bk1), (3, pt bk6), (4, pt bk11), (5, pt bk16), (6, .func (.func 35) #[] #[pt bk16]), (7, .int .i64 2), (8, .int .i64 0), (13, .int .i64 2), (16, .int .i64 0)] [.int .i64 0, .int .i64 0] 2 En504 (by kernel_rfl) (by kernel_rfl) rfl ?_
 intro ac505 En506
 refine from_end (by kernel_rfl) ?_
 refine then_normal ?_
 refine wp_seq ?_
 refine region_from ?_
 refine d_pures [(2, pt bk1), (3, pt bk6), (4, pt bk11), (5, pt bk16), (6, .func (.func 35) #[] #[pt bk16]), (7, .int .i64 2), (8, .int .i64 0), (13, .int .i64 2), (16, .int .i64 0), (22, .bool true)] [.int .i64 2, .int .i64 0, .int .i64 2, .bool true] 4 En506 (by kernel_rfl) (by kernel_rfl) rfl ?_
 intro ac507 En508
 refine from_end (by kernel_rfl) ?_
 refine then_normal ?_
 refine cond_true En508 (t := true) (by kernel_rfl) rfl ?_
 refine region_cut (F := fun ac wo => ∃ (ltq574 : _), Env ac 73 [(2, pt bk1), (3, pt bk6), (4, pt bk11), (5, pt bk16), (6, .func (.func 35) #[] #[pt bk16]), (7, .int .i64 2), (8, .int .i64 0), (13, .int .i64 2), (16, .int .i64 0)] ∧ Ev w [] wo [.box bk16 (u64s ltq574) 65, .box bk1 (u64s l) 54, .box bk6 (u64s r) 52, .box bk11 (u64s (List.replicate 3 0)) 54] ∧ (List.length ltq574 = 4) ∧ (dv B64 ltq574 = dv B64 ltq451 + UInt64.toNat (List.getD l 2 0) * UInt64.toNat (List.getD r 0 0) * 340282366920938463463374607431768211456)) ?_ ?_
 ·
  refine h_start (fun wv => Ev w [] wv [.box bk1 (u64s l) 54, .box bk6 (u64s r) 52]) [] (by kernel_rfl) 11 (by kernel_rfl) ?_
  have wo509 := Hv490.trans (Ev.drew Hv490.heap)
  refine h_pureR (d := some 23) En508 (v := .func (.func 35) #[] #[pt bk16]) 0 (by kernel_rfl) (by kernel_rfl) rfl (fun _ => wo509.pick [1, 2] (by kernel_rfl) (by decide)) ?_
  intro ac581 En582
  refine h_pureR (d := some 24) En582 (v := .int .i64 2) 1 (by kernel_rfl) (by kernel_rfl) rfl (fun _ => wo509.pick [1, 2] (by kernel_rfl) (by decide)) ?_
  intro ac583 En584
  refine h_pureR (d := some 25) En584 (v := .int .i64 0) 2 (by kernel_rfl) (by kernel_rfl) rfl (fun _ => wo509.pick [1, 2] (by kernel_rfl) (by decide)) ?_
  intro ac585 En586
  refine h_pureR (d := some 26) En586 (v := .int .i64 2) 3 (by kernel_rfl) (by kernel_rfl) rfl (fun _ => wo509.pick [1, 2] (by kernel_rfl) (by decide)) ?_
  intro ac587 En588
  refine h_pureR (d := some 27) En588 (v := .int .i64 2) 4 (by kernel_rfl) (by kernel_rfl) rfl (fun _ => wo509.pick [1, 2] (by kernel_rfl) (by decide)) ?_
  intro ac589 En590
  refine h_free (d := some 28) (s := nv (Instr.indexAt 54 (pt bk1) (.int .i64 2))) En590 (v := .pointer (some ⟨bk1, 2, none⟩)) 5 (by kernel_rfl) (fun _ => run_nv (Go.Dbr.run_indexarr (e := 49) (sz := 1) (m := 3) (j := 2) (o := 2) (by kernel_rfl) (by kernel_rfl) (by omega) (by omega) (by omega) _)) (by kernel_rfl) rfl (fun _ => wo509.pick [1, 2] (by kernel_rfl) (by decide)) ?_
  intro ac591 En592
  have hb593 : 2 < List.length l := by rw [hl]; omega
  refine h_read (d := some 29) (s := nv (Instr.loadAt 49 (.pointer (some ⟨bk1, 2, none⟩)))) En592 (v := .int .u64 ((UInt64.toNat (List.getD l 2 0) : Nat) : Int)) 6 (by kernel_rfl) (fun w hS => run_nv (run_load1 (by kernel_rfl) (hS.heap.cell (k := 0) rfl (u64s_getD hb593)))) (by kernel_rfl) rfl (wo509.pick [1, 2] (by kernel_rfl) (by decide)) ?_
  intro ac594 En595
  refine h_pureR (d := some 30) En595 (v := .int .i64 0) 7 (by kernel_rfl) (by kernel_rfl) rfl (fun _ => wo509.pick [1, 2] (by kernel_rfl) (by decide)) ?_
  intro ac596 En597
  refine h_free (d := some 31) (s := nv (Instr.indexAt 52 (pt bk6) (.int .i64 0))) En597 (v := pt bk6) 8 (by kernel_rfl) (fun _ => run_nv (Go.Dbr.run_indexarr (e := 49) (sz := 1) (m := 2) (j := 0) (o := 0) (by kernel_rfl) (by kernel_rfl) (by omega) (by omega) (by omega) _)) (by kernel_rfl) rfl (fun _ => wo509.pick [1, 2] (by kernel_rfl) (by decide)) ?_
  intro ac598 En599
  have hb600 : 0 < List.length r := by rw [hr]; omega
  refine h_read (d := some 32) (s := nv (Instr.loadAt 49 (pt bk6))) En599 (v := .int .u64 ((UInt64.toNat (List.getD r 0 0) : Nat) : Int)) 9 (by kernel_rfl) (fun w hS => run_nv (run_load1 (by kernel_rfl) (hS.heap.cell (k := 1) rfl (u64s_getD hb600)))) (by kernel_rfl) rfl (wo509.pick [1, 2] (by kernel_rfl) (by decide)) ?_
  intro ac601 En602
  refine h_at 10 (by kernel_rfl) rfl ?_
  have hM604 : Heap wo488.drew [.box bk16 (u64s ltq451) 65] := wo509.heap.pick [0] (by kernel_rfl) (by decide)
  refine op_call (d := some 33) (f := 35) (args := #[.int .i64 2, .int .u64 ((UInt64.toNat (List.getD l 2 0) : Nat) : Int), .int .u64 ((UInt64.toNat (List.getD r 0 0) : Nat) : Int), pt bk16]) En602 (by kernel_rfl) ((mac_go _ bk16 ltq451 hlq451 2 340282366920938463463374607431768211456 rfl (List.getD l 2 0) (List.getD r 0 0) (by omega) (by omega) hM604).mono ?_)
  rintro _ wo606 ⟨ltq603, rfl, he609, hlq603, hvq603⟩
  refine ⟨_, rfl, ?_⟩
  intro ac605 En607
  have Hv608 : Ev w [] wo606 [.box bk16 (u64s ltq603) 65, .box bk1 (u64s l) 54, .box bk6 (u64s r) 52, .box bk11 (u64s (List.replicate 3 0)) 54] := wo509.trans (Ev.call (R := [.box bk1 (u64s l) 54, .box bk6 (u64s r) 52, .box bk11 (u64s (List.replicate 3 0)) 54]) wo509.heap [0, 1, 2, 3] (by kernel_rfl) (by decide) he609)
  clear hM604 he609
  refine ⟨fun _ => Hv608.pick [1, 2] (by kernel_rfl) (by decide), ?_⟩
  exact h_end (by kernel_rfl) ⟨ltq603, En607.sub (by kernel_rfl), Hv608.pick [0, 1, 2, 3] (by kernel_rfl) (by decide), hlq603, hvq603⟩
 rintro ac610 wo611 ⟨ltq574, En612, Hv613, hlq574, hvq574⟩
 refine block_normal ?_
 refine then_normal ?_
 refine region_from ?_
 refine d_pures [(2, pt bk1), (3, pt bk6), (4, pt bk11), (5, pt bk16), (6, .func (.func 35) #[] #[pt bk16]), (7, .int .i64 2), (8, .int .i64 0), (13, .int .i64 2), (16, .int .i64 1)] [.int .i64 1, .int .i64 1] 2 En612 (by kernel_rfl) (by kernel_rfl) rfl ?_
 intro ac614 En615
 refine from_end (by kernel_rfl) ?_
 refine then_normal ?_
 refine loop_once ?_
 refine wp_seq ?_
 refine region_from ?_
 refine d_pures [(2, pt bk1), (3, pt bk6), (4, pt bk11), (5, pt bk16), (6, .func (.func 35) #[] #[pt bk16]), (7, .int .i64 2), (8, .int .i64 0), (13, .int .i64 2), (16, .int .i64 1), (17, .bool true)] [.bool true] 1 En615 (by kernel_rfl) (by kernel_rfl) rfl ?_
 intro ac616 En617
 refine from_end (by kernel_rfl) ?_
 refine then_normal ?_
 refine wp_seq ?_
 refine cond_true En617 (t := true) (by kernel_rfl) rfl ?_
 refine wp_skip ?_
 refine then_normal ?_
 refine wp_seq ?_
 refine wp_block ?_
 refine wp_seq ?_
 refine region_from ?_
 refine d_pures [(2, pt bk1), (3, pt bk6), (4, pt bk11), (5, pt bk16), (6, .func (.func 35) #[] #[pt bk16]), (7, .int .i64 2), (8, .int .i64 1), (13, .int .i64 2), (16, .int .i64 1)] [.int .i64 1, .int .i64 1] 2 En617 (by kernel_rfl) (by kernel_rfl) rfl ?_
 intro ac618 En619
 refine from_end (by kernel_rfl) ?_
 refine then_normal ?_
 refine wp_seq ?_
 refine region_from ?_
 refine d_pures [(2, pt bk1), (3, pt bk6), (4, pt bk11), (5, pt bk16), (6, .func (.func 35) #[] #[pt bk16]), (7, .int .i64 2), (8, .int .i64 1), (13, .int .i64 2), (16, .int .i64 1), (22, .bool false)] [.int .i64 2, .int .i64 1, .int .i64 3, .bool false] 4 En619 (by kernel_rfl) (by kernel_rfl) rfl ?_
 intro ac620 En621
 refine from_end (by kernel_rfl) ?_
 refine then_normal ?_
 refine cond_false En621 (t := false) (by kernel_rfl) rfl ?_
 refine region_cut (F := fun ac wo => Env ac 73 [(2, pt bk1), (3, pt bk6), (4, pt bk11), (5, pt bk16), (6, .func (.func 35) #[] #[pt bk16]), (7, .int .i64 2), (8, .int .i64 1), (13, .int .i64 2), (16, .int .i64 1)] ∧ Ev w [] wo [.box bk16 (u64s (List.set ltq574 3 ((List.getD ltq574 3 0) + ((List.getD l 2 0) * (List.getD r 1 0))))) 65, .box bk1 (u64s l) 54, .box bk6 (u64s r) 52, .box bk11 (u64s (List.replicate 3 0)) 54]) ?_ ?_
 ·
  refine h_start (fun wv => Ev w [] wv [.box bk16 (u64s ltq574) 65, .box bk1 (u64s l) 54, .box bk6 (u64s r) 52]) [11] (by kernel_rfl) 12 (by kernel_rfl) ?_
  have wo622 := Hv613.trans (Ev.drew Hv613.heap)
  refine h_free (d := some 34) (s := nv (Instr.indexAt 65 (pt bk16) (.int .i64 3))) En621 (v := .pointer (some ⟨bk16, 3, none⟩)) 0 (by kernel_rfl) (fun _ => run_nv (Go.Dbr.run_indexarr (e := 49) (sz := 1) (m := 4) (j := 3) (o := 3) (by kernel_rfl) (by kernel_rfl) (by omega) (by omega) (by omega) _)) (by kernel_rfl) rfl (fun _ => wo622.pick [0, 1, 2] (by kernel_rfl) (by decide)) ?_
  intro ac732 En733
  have hb734 : 3 < List.length ltq574 := by rw [hlq574]; omega
  refine h_read (d := some 35) (s := nv (Instr.loadAt 49 (.pointer (some ⟨bk16, 3, none⟩)))) En733 (v := .int .u64 ((UInt64.toNat (List.getD ltq574 3 0) : Nat) : Int)) 1 (by kernel_rfl) (fun w hS => run_nv (run_load1 (by kernel_rfl) (hS.heap.cell (k := 0) rfl (u64s_getD hb734)))) (by kernel_rfl) rfl (wo622.pick [0, 1, 2] (by kernel_rfl) (by decide)) ?_
  intro ac735 En736
  refine h_pureR (d := some 36) En736 (v := .int .i64 2) 2 (by kernel_rfl) (by kernel_rfl) rfl (fun _ => wo622.pick [0, 1, 2] (by kernel_rfl) (by decide)) ?_
  intro ac737 En738
  refine h_free (d := some 37) (s := nv (Instr.indexAt 54 (pt bk1) (.int .i64 2))) En738 (v := .pointer (some ⟨bk1, 2, none⟩)) 3 (by kernel_rfl) (fun _ => run_nv (Go.Dbr.run_indexarr (e := 49) (sz := 1) (m := 3) (j := 2) (o := 2) (by kernel_rfl) (by kernel_rfl) (by omega) (by omega) (by omega) _)) (by kernel_rfl) rfl (fun _ => wo622.pick [0, 1, 2] (by kernel_rfl) (by decide)) ?_
  intro ac739 En740
  have hb741 : 2 < List.length l := by rw [hl]; omega
  refine h_read (d := some 38) (s := nv (Instr.loadAt 49 (.pointer (some ⟨bk1, 2, none⟩)))) En740 (v := .int .u64 ((UInt64.toNat (List.getD l 2 0) : Nat) : Int)) 4 (by kernel_rfl) (fun w hS => run_nv (run_load1 (by kernel_rfl) (hS.heap.cell (k := 1) rfl (u64s_getD hb741)))) (by kernel_rfl) rfl (wo622.pick [0, 1, 2] (by kernel_rfl) (by decide)) ?_
  intro ac742 En743
  refine h_pureR (d := some 39) En743 (v := .int .i64 1) 5 (by kernel_rfl) (by kernel_rfl) rfl (fun _ => wo622.pick [0, 1, 2] (by kernel_rfl) (by decide)) ?_
  intro ac744 En745
  refine h_free (d := some 40) (s := nv (Instr.indexAt 52 (pt bk6) (.int .i64 1))) En745 (v := .pointer (some ⟨bk6, 1, none⟩)) 6 (by kernel_rfl) (fun _ => run_nv (Go.Dbr.run_indexarr (e := 49) (sz := 1) (m := 2) (j := 1) (o := 1) (by kernel_rfl) (by kernel_rfl) (by omega) (by omega) (by omega) _)) (by kernel_rfl) rfl (fun _ => wo622.pick [0, 1, 2] (by kernel_rfl) (by decide)) ?_
  intro ac746 En747
  have hb748 : 1 < List.length r := by rw [hr]; omega
  refine h_read (d := some 41) (s := nv (Instr.loadAt 49 (.pointer (some ⟨bk6, 1, none⟩)))) En747 (v := .int .u64 ((UInt64.toNat (List.getD r 1 0) : Nat) : Int)) 7 (by kernel_rfl) (fun w hS => run_nv (run_load1 (by kernel_rfl) (hS.heap.cell (k := 2) rfl (u64s_getD hb748)))) (by kernel_rfl) rfl (wo622.pick [0, 1, 2] (by kernel_rfl) (by decide)) ?_
  intro ac749 En750
  refine h_pureR (d := some 42) En750 (v := .int .u64 (IntKind.wrap .u64 (((UInt64.toNat (List.getD l 2 0) : Nat) : Int) * ((UInt64.toNat (List.getD r 1 0) : Nat) : Int)))) 8 (by kernel_rfl) (by kernel_rfl) rfl (fun _ => wo622.pick [0, 1, 2] (by kernel_rfl) (by decide)) ?_
  intro ac751 En752
  rw [Go.Dbr.u64_mul (a := ((UInt64.toNat (List.getD l 2 0) : Nat) : Int)) (b := ((UInt64.toNat (List.getD r 1 0) : Nat) : Int)) (x := List.getD l 2 0) (y := List.getD r 1 0) rfl rfl] at En752
  refine h_pureR (d := some 43) En752 (v := .int .u64 (IntKind.wrap .u64 (((UInt64.toNat (List.getD ltq574 3 0) : Nat) : Int) + ((UInt64.toNat ((List.getD l 2 0) * (List.getD r 1 0)) : Nat) : Int)))) 9 (by kernel_rfl) (by kernel_rfl) rfl (fun _ => wo622.pick [0, 1, 2] (by kernel_rfl) (by decide)) ?_
  intro ac753 En754
  rw [Go.Dbr.u64_add (a := ((UInt64.toNat (List.getD ltq574 3 0) : Nat) : Int)) (b := ((UInt64.toNat ((List.getD l 2 0) * (List.getD r 1 0)) : Nat) : Int)) (x := List.getD ltq574 3 0) (y := (List.getD l 2 0) * (List.getD r 1 0)) rfl rfl] at En754
  refine h_free (d := some 44) (s := nv (Instr.indexAt 65 (pt bk16) (.int .i64 3))) En754 (v := .pointer (some ⟨bk16, 3, none⟩)) 10 (by kernel_rfl) (fun _ => run_nv (Go.Dbr.run_indexarr (e := 49) (sz := 1) (m := 4) (j := 3) (o := 3) (by kernel_rfl) (by kernel_rfl) (by omega) (by omega) (by omega) _)) (by kernel_rfl) rfl (fun _ => wo622.pick [0, 1, 2] (by kernel_rfl) (by decide)) ?_
  intro ac755 En756
  refine h_at 11 (by kernel_rfl) rfl ?_
  have hb757 : 3 < List.length ltq574 := by rw [hlq574]; omega
  refine op_storebox2 (d := none) (t := 49) (b := bk16) (off := 3) (k := 0) (v := .int .u64 ((UInt64.toNat ((List.getD ltq574 3 0) + ((List.getD l 2 0) * (List.getD r 1 0))) : Nat) : Int)) En756 (by kernel_rfl) wo622 rfl (u64s_getD hb757) (by kernel_rfl) rfl (u64s_set _ _ _) rfl ?_
  intro ac758 wo759  En760 Hv761
  refine ⟨not_yet (by kernel_rfl), ?_⟩
  exact h_end (by kernel_rfl) ⟨En760.sub (by kernel_rfl), Hv761.pick [0, 1, 2, 3] (by kernel_rfl) (by decide)⟩
 rintro ac762 wo763 ⟨En764, Hv765⟩
 have hTv := top_add (t := ltq574) (x := List.getD l 2 0) (y := List.getD r 1 0) hlq574 (by omega)
 have hTl : List.length (List.set ltq574 3 ((List.getD ltq574 3 0) + ((List.getD l 2 0) * (List.getD r 1 0)))) = 4 := by rw [List.length_set]; exact hlq574
 generalize hTT : List.set ltq574 3 ((List.getD ltq574 3 0) + ((List.getD l 2 0) * (List.getD r 1 0))) = tt at *
 refine block_normal ?_
 refine then_normal ?_
 refine region_from ?_
 refine d_pures [(2, pt bk1), (3, pt bk6), (4, pt bk11), (5, pt bk16), (6, .func (.func 35) #[] #[pt bk16]), (7, .int .i64 2), (8, .int .i64 1), (13, .int .i64 2), (16, .int .i64 2)] [.int .i64 2, .int .i64 2] 2 En764 (by kernel_rfl) (by kernel_rfl) rfl ?_
 intro ac766 En767
 refine from_end (by kernel_rfl) ?_
 refine then_normal ?_
 refine loop_once ?_
 refine wp_seq ?_
 refine region_from ?_
 refine d_pures [(2, pt bk1), (3, pt bk6), (4, pt bk11), (5, pt bk16), (6, .func (.func 35) #[] #[pt bk16]), (7, .int .i64 2), (8, .int .i64 1), (13, .int .i64 2), (16, .int .i64 2), (17, .bool false)] [.bool false] 1 En767 (by kernel_rfl) (by kernel_rfl) rfl ?_
 intro ac768 En769
 refine from_end (by kernel_rfl) ?_
 refine then_normal ?_
 refine wp_seq ?_
 refine cond_false En769 (t := false) (by kernel_rfl) rfl ?_
 refine wp_exit ?_
 refine then_exit ?_
 refine then_exit ?_
 refine block_exit ?_
 refine block_normal ?_
 refine then_normal ?_
 refine region_from ?_
 refine d_pures [(2, pt bk1), (3, pt bk6), (4, pt bk11), (5, pt bk16), (6, .func (.func 35) #[] #[pt bk16]), (7, .int .i64 2), (8, .int .i64 1), (13, .int .i64 3), (16, .int .i64 2)] [.int .i64 3, .int .i64 3] 2 En769 (by kernel_rfl) (by kernel_rfl) rfl ?_
 intro ac770 En771
 refine from_end (by kernel_rfl) ?_
 refine then_normal ?_
 refine loop_once ?_
 refine wp_seq ?_
 refine region_from ?_
 refine d_pures [(2, pt bk1), (3, pt bk6), (4, pt bk11), (5, pt bk16), (6, .func (.func 35) #[] #[pt bk16]), (7, .int .i64 2), (8, .int .i64 1), (13, .int .i64 3), (14, .bool false), (16, .int .i64 2)] [.bool false] 1 En771 (by kernel_rfl) (by kernel_rfl) rfl ?_
 intro ac772 En773
 refine from_end (by kernel_rfl) ?_
 refine then_normal ?_
 refine wp_seq ?_
 refine cond_false En773 (t := false) (by kernel_rfl) rfl ?_
 refine wp_exit ?_
 refine then_exit ?_
 refine then_exit ?_
 refine block_exit ?_
 refine then_normal ?_
 refine wp_seq ?_
 refine region_from ?_
 refine from_op (by kernel_rfl) ?_
 refine op_val (d := some 47) (x := Instr.indexAt 65 (pt bk16) (.int .i64 0)) (v := pt bk16) En773 (by kernel_rfl) (Go.Dbr.run_indexarr (e := 49) (sz := 1) (m := 4) (j := 0) (o := 0) (by kernel_rfl) (by kernel_rfl) (by omega) (by omega) (by omega) _) ?_
 intro ac774 En775
 refine from_op (by kernel_rfl) ?_
 have hb776 : 0 < List.length tt := by rw [hTl]; omega
 refine op_loadbox (d := some 48) (t := 49) (b := bk16) (off := 0) (k := 0) (v := .int .u64 ((UInt64.toNat (List.getD tt 0 0) : Nat) : Int)) En775 (by kernel_rfl) Hv765 rfl (u64s_getD hb776) (by kernel_rfl) ?_
 intro ac777 En778
 refine from_op (by kernel_rfl) ?_
 refine op_val (d := some 49) (x := Instr.indexAt 65 (pt bk16) (.int .i64 1)) (v := .pointer (some ⟨bk16, 1, none⟩)) En778 (by kernel_rfl) (Go.Dbr.run_indexarr (e := 49) (sz := 1) (m := 4) (j := 1) (o := 1) (by kernel_rfl) (by kernel_rfl) (by omega) (by omega) (by omega) _) ?_
 intro ac779 En780
 refine from_op (by kernel_rfl) ?_
 have hb781 : 1 < List.length tt := by rw [hTl]; omega
 refine op_loadbox (d := some 50) (t := 49) (b := bk16) (off := 1) (k := 0) (v := .int .u64 ((UInt64.toNat (List.getD tt 1 0) : Nat) : Int)) En780 (by kernel_rfl) Hv765 rfl (u64s_getD hb781) (by kernel_rfl) ?_
 intro ac782 En783
 refine from_op (by kernel_rfl) ?_
 refine op_val (d := some 51) (x := Instr.indexAt 65 (pt bk16) (.int .i64 2)) (v := .pointer (some ⟨bk16, 2, none⟩)) En783 (by kernel_rfl) (Go.Dbr.run_indexarr (e := 49) (sz := 1) (m := 4) (j := 2) (o := 2) (by kernel_rfl) (by kernel_rfl) (by omega) (by omega) (by omega) _) ?_
 intro ac784 En785
 refine from_op (by kernel_rfl) ?_
 have hb786 : 2 < List.length tt := by rw [hTl]; omega
 refine op_loadbox (d := some 52) (t := 49) (b := bk16) (off := 2) (k := 0) (v := .int .u64 ((UInt64.toNat (List.getD tt 2 0) : Nat) : Int)) En785 (by kernel_rfl) Hv765 rfl (u64s_getD hb786) (by kernel_rfl) ?_
 intro ac787 En788
 refine d_pures [(2, pt bk1), (3, pt bk6), (4, pt bk11), (5, pt bk16), (6, .func (.func 35) #[] #[pt bk16]), (7, .int .i64 2), (8, .int .i64 1), (13, .int .i64 3), (16, .int .i64 2), (48, .int .u64 ((UInt64.toNat (List.getD tt 0 0) : Nat) : Int)), (50, .int .u64 ((UInt64.toNat (List.getD tt 1 0) : Nat) : Int)), (53, .int .u64 (IntKind.wrap .u64 ((BitVec.ofInt (IntKind.bits .u64) ((UInt64.toNat (List.getD tt 2 0) : Nat) : Int) &&& BitVec.ofInt (IntKind.bits .u64) (3 : Int)).toNat : Int)))] [.int .u64 (IntKind.wrap .u64 ((BitVec.ofInt (IntKind.bits .u64) ((UInt64.toNat (List.getD tt 2 0) : Nat) : Int) &&& BitVec.ofInt (IntKind.bits .u64) (3 : Int)).toNat : Int))] 7 En788 (by kernel_rfl) (by kernel_rfl) rfl ?_
 intro ac789 En790
 rw [Go.Dbr.u64_and (a := ((UInt64.toNat (List.getD tt 2 0) : Nat) : Int)) (b := (3 : Int)) (x := List.getD tt 2 0) (y := (3 : UInt64)) rfl rfl] at En790
 refine d_pures [(2, pt bk1), (3, pt bk6), (4, pt bk11), (5, pt bk16), (6, .func (.func 35) #[] #[pt bk16]), (7, .int .i64 2), (8, .int .i64 1), (13, .int .i64 3), (16, .int .i64 2), (54, .agg (List.toArray (u64s ([List.getD tt 0 0, List.getD tt 1 0, (List.getD tt 2 0) &&& (3 : UInt64)] : List UInt64))))] [.agg (List.toArray (u64s ([List.getD tt 0 0, List.getD tt 1 0, (List.getD tt 2 0) &&& (3 : UInt64)] : List UInt64)))] 8 En790 (by kernel_rfl) (by kernel_rfl) rfl ?_
 intro ac791 En792
 refine from_op (by kernel_rfl) ?_
 refine op_alloc (d := some 9) (T := 54) (x := .tuple #[]) (z := .agg (List.toArray (u64s (List.replicate 3 0)))) (cs := u64s (List.replicate 3 0)) En792 (by kernel_rfl) (by kernel_rfl) (by kernel_rfl) Hv765 ?_
 intro ac794 wo795 bk793 En796 Hv797
 refine from_op (by kernel_rfl) ?_
 refine op_storeaggbox (d := none) (t := 54) (b := bk793) (off := 0) (k := 4) (m := 3) (xs := u64s ([List.getD tt 0 0, List.getD tt 1 0, (List.getD tt 2 0) &&& (3 : UInt64)] : List UInt64)) (v := .agg (List.toArray (u64s ([List.getD tt 0 0, List.getD tt 1 0, (List.getD tt 2 0) &&& (3 : UInt64)] : List UInt64)))) (cs' := u64s ([List.getD tt 0 0, List.getD tt 1 0, (List.getD tt 2 0) &&& (3 : UInt64)] : List UInt64)) En796 (by kernel_rfl) Hv797 rfl rfl (u64s_lenh (show List.length ([List.getD tt 0 0, List.getD tt 1 0, (List.getD tt 2 0) &&& (3 : UInt64)] : List UInt64) = 3 from rfl)) (by rw [(u64s_lenh (List.length_replicate))]; decide) (by kernel_rfl) (u64s_one _) (store_whole (u64s_lenh (List.length_replicate))) (L' := [.box bk16 (u64s tt) 65, .box bk1 (u64s l) 54, .box bk6 (u64s r) 52, .box bk11 (u64s (List.replicate 3 0)) 54, .box bk793 (u64s ([List.getD tt 0 0, List.getD tt 1 0, (List.getD tt 2 0) &&& (3 : UInt64)] : List UInt64)) 54]) rfl ?_
 intro ac798 wo799  En800 Hv801
 refine from_end (by kernel_rfl) ?_
 refine then_normal ?_
 refine wp_seq ?_
 refine region_cut (F := fun ac wo => Env ac 73 [(2, pt bk1), (3, pt bk6), (4, pt bk11), (5, pt bk16), (6, .func (.func 35) #[] #[pt bk16]), (7, .int .i64 2), (8, .int .i64 1), (9, pt bk793), (10, .int .u64 ((UInt64.toNat ((List.getD tt 2 0) &&& ~~~ (3 : UInt64)) : Nat) : Int)), (11, .int .u64 ((UInt64.toNat (List.getD tt 3 0) : Nat) : Int)), (13, .int .i64 3), (16, .int .i64 2)] ∧ Ev w [] wo [.box bk16 (u64s tt) 65, .box bk1 (u64s l) 54, .box bk6 (u64s r) 52, .box bk11 (u64s (List.replicate 3 0)) 54, .box bk793 (u64s ([List.getD tt 0 0, List.getD tt 1 0, (List.getD tt 2 0) &&& (3 : UInt64)] : List UInt64)) 54]) ?_ ?_
 ·
  refine h_start (fun wv => Ev w [] wv [.box bk16 (u64s tt) 65]) [] (by kernel_rfl) 7 (by kernel_rfl) ?_
  have wo802 := Hv801.trans (Ev.drew Hv801.heap)
  refine h_free (d := some 55) (s := nv (Instr.indexAt 65 (pt bk16) (.int .i64 2))) En800 (v := .pointer (some ⟨bk16, 2, none⟩)) 0 (by kernel_rfl) (fun _ => run_nv (Go.Dbr.run_indexarr (e := 49) (sz := 1) (m := 4) (j := 2) (o := 2) (by kernel_rfl) (by kernel_rfl) (by omega) (by omega) (by omega) _)) (by kernel_rfl) rfl (fun _ => wo802.pick [0] (by kernel_rfl) (by decide)) ?_
  intro ac847 En848
  have hb849 : 2 < List.length tt := by rw [hTl]; omega
  refine h_read (d := some 56) (s := nv (Instr.loadAt 49 (.pointer (some ⟨bk16, 2, none⟩)))) En848 (v := .int .u64 ((UInt64.toNat (List.getD tt 2 0) : Nat) : Int)) 1 (by kernel_rfl) (fun w hS => run_nv (run_load1 (by kernel_rfl) (hS.heap.cell (k := 0) rfl (u64s_getD hb849)))) (by kernel_rfl) rfl (wo802.pick [0] (by kernel_rfl) (by decide)) ?_
  intro ac850 En851
  refine h_pureR (d := some 57) En851 (v := .int .u64 (IntKind.wrap .u64 ((BitVec.ofInt (IntKind.bits .u64) ((UInt64.toNat (List.getD tt 2 0) : Nat) : Int) &&& ~~~ (BitVec.ofInt (IntKind.bits .u64) (3 : Int))).toNat : Int))) 2 (by kernel_rfl) (by kernel_rfl) rfl (fun _ => wo802.pick [0] (by kernel_rfl) (by decide)) ?_
  intro ac852 En853
  rw [Go.Dbr.u64_andNot (a := ((UInt64.toNat (List.getD tt 2 0) : Nat) : Int)) (b := (3 : Int)) (x := List.getD tt 2 0) (y := (3 : UInt64)) rfl rfl] at En853
  refine h_free (d := some 58) (s := nv (Instr.indexAt 65 (pt bk16) (.int .i64 3))) En853 (v := .pointer (some ⟨bk16, 3, none⟩)) 3 (by kernel_rfl) (fun _ => run_nv (Go.Dbr.run_indexarr (e := 49) (sz := 1) (m := 4) (j := 3) (o := 3) (by kernel_rfl) (by kernel_rfl) (by omega) (by omega) (by omega) _)) (by kernel_rfl) rfl (fun _ => wo802.pick [0] (by kernel_rfl) (by decide)) ?_
  intro ac854 En855
  have hb856 : 3 < List.length tt := by rw [hTl]; omega
  refine h_read (d := some 59) (s := nv (Instr.loadAt 49 (.pointer (some ⟨bk16, 3, none⟩)))) En855 (v := .int .u64 ((UInt64.toNat (List.getD tt 3 0) : Nat) : Int)) 4 (by kernel_rfl) (fun w hS => run_nv (run_load1 (by kernel_rfl) (hS.heap.cell (k := 0) rfl (u64s_getD hb856)))) (by kernel_rfl) rfl (wo802.pick [0] (by kernel_rfl) (by decide)) ?_
  intro ac857 En858
  refine h_pureR (d := some 10) En858 (v := .int .u64 ((UInt64.toNat ((List.getD tt 2 0) &&& ~~~ (3 : UInt64)) : Nat) : Int)) 5 (by kernel_rfl) (by kernel_rfl) rfl (fun _ => wo802.pick [0] (by kernel_rfl) (by decide)) ?_
  intro ac859 En860
  refine h_pureR (d := some 11) En860 (v := .int .u64 ((UInt64.toNat (List.getD tt 3 0) : Nat) : Int)) 6 (by kernel_rfl) (by kernel_rfl) rfl (fun _ => wo802.pick [0] (by kernel_rfl) (by decide)) ?_
  intro ac861 En862
  exact h_end (by kernel_rfl) ⟨En862.sub (by kernel_rfl), wo802.pick [0, 1, 2, 3, 4] (by kernel_rfl) (by decide)⟩
 rintro ac863 wo864 ⟨En865, Hv866⟩
 refine then_normal ?_
 refine wp_seq ?_
 refine region_from ?_
 refine from_op (by kernel_rfl) ?_
 refine op_loadaggbox (d := some 60) (t := 54) (b := bk793) (off := 0) (k := 4) (m := 3) (xs := u64s ([List.getD tt 0 0, List.getD tt 1 0, (List.getD tt 2 0) &&& (3 : UInt64)] : List UInt64)) En865 (by kernel_rfl) Hv866 rfl (load_whole (u64s_lenh (show List.length ([List.getD tt 0 0, List.getD tt 1 0, (List.getD tt 2 0) &&& (3 : UInt64)] : List UInt64) = 3 from rfl))) (u64s_lenh (show List.length ([List.getD tt 0 0, List.getD tt 1 0, (List.getD tt 2 0) &&& (3 : UInt64)] : List UInt64) = 3 from rfl)) (by kernel_rfl) (by kernel_rfl) ?_
 intro ac867 En868
 refine d_pures [(2, pt bk1), (3, pt bk6), (4, pt bk11), (5, pt bk16), (6, .func (.func 35) #[] #[pt bk16]), (7, .int .i64 2), (8, .int .i64 1), (9, pt bk793), (10, .int .u64 ((UInt64.toNat ((List.getD tt 2 0) &&& ~~~ (3 : UInt64)) : Nat) : Int)), (11, .int .u64 ((UInt64.toNat (List.getD tt 3 0) : Nat) : Int)), (13, .int .i64 3), (16, .int .i64 2), (60, .agg (List.toArray (u64s ([List.getD tt 0 0, List.getD tt 1 0, (List.getD tt 2 0) &&& (3 : UInt64)] : List UInt64)))), (61, .int .u64 ((UInt64.toNat ((List.getD tt 2 0) &&& ~~~ (3 : UInt64)) : Nat) : Int)), (62, .int .u64 ((UInt64.toNat (List.getD tt 3 0) : Nat) : Int))] [.int .u64 ((UInt64.toNat ((List.getD tt 2 0) &&& ~~~ (3 : UInt64)) : Nat) : Int), .int .u64 ((UInt64.toNat (List.getD tt 3 0) : Nat) : Int)] 3 En868 (by kernel_rfl) (by kernel_rfl) rfl ?_
 intro ac869 En870
 refine from_op (by kernel_rfl) ?_
 have hM871 : Heap wo864 [] := Hv866.heap.pick [] (by kernel_rfl) (by decide)
 refine op_call (d := some 63) (f := 26) (args := #[.agg (List.toArray (u64s ([List.getD tt 0 0, List.getD tt 1 0, (List.getD tt 2 0) &&& (3 : UInt64)] : List UInt64))), .int .u64 ((UInt64.toNat ((List.getD tt 2 0) &&& ~~~ (3 : UInt64)) : Nat) : Int), .int .u64 ((UInt64.toNat (List.getD tt 3 0) : Nat) : Int), .int .u64 0]) En870 (by kernel_rfl) ((plus_go _ ([List.getD tt 0 0, List.getD tt 1 0, (List.getD tt 2 0) &&& (3 : UInt64)] : List UInt64) (show List.length ([List.getD tt 0 0, List.getD tt 1 0, (List.getD tt 2 0) &&& (3 : UInt64)] : List UInt64) = 3 from rfl) ((List.getD tt 2 0) &&& ~~~ (3 : UInt64)) (List.getD tt 3 0) (0 : UInt64)).mono ?_)
 rintro _ wo873 ⟨rfl, he876⟩
 refine ⟨_, rfl, ?_⟩
 intro ac872 En874
 have Hv875 : Ev w [] wo873 [.box bk16 (u64s tt) 65, .box bk1 (u64s l) 54, .box bk6 (u64s r) 52, .box bk11 (u64s (List.replicate 3 0)) 54, .box bk793 (u64s ([List.getD tt 0 0, List.getD tt 1 0, (List.getD tt 2 0) &&& (3 : UInt64)] : List UInt64)) 54] := Hv866.trans (Ev.call (R := [.box bk16 (u64s tt) 65, .box bk1 (u64s l) 54, .box bk6 (u64s r) 52, .box bk11 (u64s (List.replicate 3 0)) 54, .box bk793 (u64s ([List.getD tt 0 0, List.getD tt 1 0, (List.getD tt 2 0) &&& (3 : UInt64)] : List UInt64)) 54]) Hv866.heap [0, 1, 2, 3, 4] (by kernel_rfl) (by decide) he876)
 clear hM871 he876
 refine from_op (by kernel_rfl) ?_
 refine op_storeaggbox (d := none) (t := 54) (b := bk793) (off := 0) (k := 4) (m := 3) (xs := u64s (plusF ([List.getD tt 0 0, List.getD tt 1 0, (List.getD tt 2 0) &&& (3 : UInt64)] : List UInt64) ((List.getD tt 2 0) &&& ~~~ (3 : UInt64)) (List.getD tt 3 0) (0 : UInt64))) (v := .agg (List.toArray (u64s (plusF ([List.getD tt 0 0, List.getD tt 1 0, (List.getD tt 2 0) &&& (3 : UInt64)] : List UInt64) ((List.getD tt 2 0) &&& ~~~ (3 : UInt64)) (List.getD tt 3 0) (0 : UInt64))))) (cs' := u64s (plusF ([List.getD tt 0 0, List.getD tt 1 0, (List.getD tt 2 0) &&& (3 : UInt64)] : List UInt64) ((List.getD tt 2 0) &&& ~~~ (3 : UInt64)) (List.getD tt 3 0) (0 : UInt64))) En874 (by kernel_rfl) Hv875 rfl rfl (u64s_lenh (plusF_len _ _ _ _)) (by rw [(u64s_lenh (show List.length ([List.getD tt 0 0, List.getD tt 1 0, (List.getD tt 2 0) &&& (3 : UInt64)] : List UInt64) = 3 from rfl))]; decide) (by kernel_rfl) (u64s_one _) (store_whole (u64s_lenh (show List.length ([List.getD tt 0 0, List.getD tt 1 0, (List.getD tt 2 0) &&& (3 : UInt64)] : List UInt64) = 3 from rfl))) (L' := [.box bk16 (u64s tt) 65, .box bk1 (u64s l) 54, .box bk6 (u64s r) 52, .box bk11 (u64s (List.replicate 3 0)) 54, .box bk793 (u64s (plusF ([List.getD tt 0 0, List.getD tt 1 0, (List.getD tt 2 0) &&& (3 : UInt64)] : List UInt64) ((List.getD tt 2 0) &&& ~~~ (3 : UInt64)) (List.getD tt 3 0) (0 : UInt64))) 54]) rfl ?_
 intro ac877 wo878  En879 Hv880
 refine from_end (by kernel_rfl) ?_
 refine then_normal ?_
 refine wp_seq ?_
 refine region_from ?_
 refine from_op (by kernel_rfl) ?_
 refine op_loadaggbox (d := some 64) (t := 54) (b := bk793) (off := 0) (k := 4) (m := 3) (xs := u64s (plusF ([List.getD tt 0 0, List.getD tt 1 0, (List.getD tt 2 0) &&& (3 : UInt64)] : List UInt64) ((List.getD tt 2 0) &&& ~~~ (3 : UInt64)) (List.getD tt 3 0) (0 : UInt64))) En879 (by kernel_rfl) Hv880 rfl (load_whole (u64s_lenh (plusF_len _ _ _ _))) (u64s_lenh (plusF_len _ _ _ _)) (by kernel_rfl) (by kernel_rfl) ?_
 intro ac881 En882
 refine d_pures [(2, pt bk1), (3, pt bk6), (4, pt bk11), (5, pt bk16), (6, .func (.func 35) #[] #[pt bk16]), (7, .int .i64 2), (8, .int .i64 1), (9, pt bk793), (10, .int .u64 ((UInt64.toNat ((List.getD tt 2 0) &&& ~~~ (3 : UInt64)) : Nat) : Int)), (11, .int .u64 ((UInt64.toNat (List.getD tt 3 0) : Nat) : Int)), (13, .int .i64 3), (16, .int .i64 2), (64, .agg (List.toArray (u64s (plusF ([List.getD tt 0 0, List.getD tt 1 0, (List.getD tt 2 0) &&& (3 : UInt64)] : List UInt64) ((List.getD tt 2 0) &&& ~~~ (3 : UInt64)) (List.getD tt 3 0) (0 : UInt64))))), (66, .int .u64 (Int.fdiv ((UInt64.toNat ((List.getD tt 2 0) &&& ~~~ (3 : UInt64)) : Nat) : Int) (2 ^ 2)))] [.int .u64 ((UInt64.toNat ((List.getD tt 2 0) &&& ~~~ (3 : UInt64)) : Nat) : Int), .int .u64 (Int.fdiv ((UInt64.toNat ((List.getD tt 2 0) &&& ~~~ (3 : UInt64)) : Nat) : Int) (2 ^ 2))] 3 En882 (by kernel_rfl) (by kernel_rfl) rfl ?_
 intro ac883 En884
 rw [Go.Dbr.u64_shr (a := ((UInt64.toNat ((List.getD tt 2 0) &&& ~~~ (3 : UInt64)) : Nat) : Int)) (x := (List.getD tt 2 0) &&& ~~~ (3 : UInt64)) (n := 2) rfl (by decide)] at En884
 refine d_pures [(2, pt bk1), (3, pt bk6), (4, pt bk11), (5, pt bk16), (6, .func (.func 35) #[] #[pt bk16]), (7, .int .i64 2), (8, .int .i64 1), (9, pt bk793), (10, .int .u64 ((UInt64.toNat ((List.getD tt 2 0) &&& ~~~ (3 : UInt64)) : Nat) : Int)), (11, .int .u64 ((UInt64.toNat (List.getD tt 3 0) : Nat) : Int)), (13, .int .i64 3), (16, .int .i64 2), (64, .agg (List.toArray (u64s (plusF ([List.getD tt 0 0, List.getD tt 1 0, (List.getD tt 2 0) &&& (3 : UInt64)] : List UInt64) ((List.getD tt 2 0) &&& ~~~ (3 : UInt64)) (List.getD tt 3 0) (0 : UInt64))))), (66, .int .u64 ((UInt64.toNat (((List.getD tt 2 0) &&& ~~~ (3 : UInt64)) >>> UInt64.ofNat 2) : Nat) : Int)), (68, .int .u64 (IntKind.wrap .u64 (((UInt64.toNat (List.getD tt 3 0) : Nat) : Int) * 2 ^ 62)))] [.int .u64 ((UInt64.toNat (List.getD tt 3 0) : Nat) : Int), .int .u64 (IntKind.wrap .u64 (((UInt64.toNat (List.getD tt 3 0) : Nat) : Int) * 2 ^ 62))] 5 En884 (by kernel_rfl) (by kernel_rfl) rfl ?_
 intro ac885 En886
 rw [Go.Dbr.u64_shl (a := ((UInt64.toNat (List.getD tt 3 0) : Nat) : Int)) (x := List.getD tt 3 0) (n := 62) rfl (by decide)] at En886
 refine d_pures [(2, pt bk1), (3, pt bk6), (4, pt bk11), (5, pt bk16), (6, .func (.func 35) #[] #[pt bk16]), (7, .int .i64 2), (8, .int .i64 1), (9, pt bk793), (10, .int .u64 ((UInt64.toNat ((List.getD tt 2 0) &&& ~~~ (3 : UInt64)) : Nat) : Int)), (11, .int .u64 ((UInt64.toNat (List.getD tt 3 0) : Nat) : Int)), (13, .int .i64 3), (16, .int .i64 2), (64, .agg (List.toArray (u64s (plusF ([List.getD tt 0 0, List.getD tt 1 0, (List.getD tt 2 0) &&& (3 : UInt64)] : List UInt64) ((List.getD tt 2 0) &&& ~~~ (3 : UInt64)) (List.getD tt 3 0) (0 : UInt64))))), (69, .int .u64 (IntKind.wrap .u64 ((BitVec.ofInt (IntKind.bits .u64) ((UInt64.toNat (((List.getD tt 2 0) &&& ~~~ (3 : UInt64)) >>> UInt64.ofNat 2) : Nat) : Int) ||| BitVec.ofInt (IntKind.bits .u64) ((UInt64.toNat ((List.getD tt 3 0) <<< UInt64.ofNat 62) : Nat) : Int)).toNat : Int)))] [.int .u64 (IntKind.wrap .u64 ((BitVec.ofInt (IntKind.bits .u64) ((UInt64.toNat (((List.getD tt 2 0) &&& ~~~ (3 : UInt64)) >>> UInt64.ofNat 2) : Nat) : Int) ||| BitVec.ofInt (IntKind.bits .u64) ((UInt64.toNat ((List.getD tt 3 0) <<< UInt64.ofNat 62) : Nat) : Int)).toNat : Int))] 6 En886 (by kernel_rfl) (by kernel_rfl) rfl ?_
 intro ac887 En888
 rw [Go.Dbr.u64_or (a := ((UInt64.toNat (((List.getD tt 2 0) &&& ~~~ (3 : UInt64)) >>> UInt64.ofNat 2) : Nat) : Int)) (b := ((UInt64.toNat ((List.getD tt 3 0) <<< UInt64.ofNat 62) : Nat) : Int)) (x := ((List.getD tt 2 0) &&& ~~~ (3 : UInt64)) >>> UInt64.ofNat 2) (y := (List.getD tt 3 0) <<< UInt64.ofNat 62) rfl rfl] at En888
 refine d_pures [(2, pt bk1), (3, pt bk6), (4, pt bk11), (5, pt bk16), (6, .func (.func 35) #[] #[pt bk16]), (7, .int .i64 2), (8, .int .i64 1), (9, pt bk793), (10, .int .u64 ((UInt64.toNat ((List.getD tt 2 0) &&& ~~~ (3 : UInt64)) : Nat) : Int)), (11, .int .u64 ((UInt64.toNat (List.getD tt 3 0) : Nat) : Int)), (13, .int .i64 3), (16, .int .i64 2), (64, .agg (List.toArray (u64s (plusF ([List.getD tt 0 0, List.getD tt 1 0, (List.getD tt 2 0) &&& (3 : UInt64)] : List UInt64) ((List.getD tt 2 0) &&& ~~~ (3 : UInt64)) (List.getD tt 3 0) (0 : UInt64))))), (69, .int .u64 ((UInt64.toNat ((((List.getD tt 2 0) &&& ~~~ (3 : UInt64)) >>> UInt64.ofNat 2) ||| ((List.getD tt 3 0) <<< UInt64.ofNat 62)) : Nat) : Int)), (71, .int .u64 (Int.fdiv ((UInt64.toNat (List.getD tt 3 0) : Nat) : Int) (2 ^ 2)))] [.int .u64 ((UInt64.toNat (List.getD tt 3 0) : Nat) : Int), .int .u64 (Int.fdiv ((UInt64.toNat (List.getD tt 3 0) : Nat) : Int) (2 ^ 2))] 8 En888 (by kernel_rfl) (by kernel_rfl) rfl ?_
 intro ac889 En890
 rw [Go.Dbr.u64_shr (a := ((UInt64.toNat (List.getD tt 3 0) : Nat) : Int)) (x := List.getD tt 3 0) (n := 2) rfl (by decide)] at En890
 refine from_op (by kernel_rfl) ?_
 have hM891 : Heap wo878 [] := Hv880.heap.pick [] (by kernel_rfl) (by decide)
 refine op_call (d := some 72) (f := 26) (args := #[.agg (List.toArray (u64s (plusF ([List.getD tt 0 0, List.getD tt 1 0, (List.getD tt 2 0) &&& (3 : UInt64)] : List UInt64) ((List.getD tt 2 0) &&& ~~~ (3 : UInt64)) (List.getD tt 3 0) (0 : UInt64)))), .int .u64 ((UInt64.toNat ((((List.getD tt 2 0) &&& ~~~ (3 : UInt64)) >>> UInt64.ofNat 2) ||| ((List.getD tt 3 0) <<< UInt64.ofNat 62)) : Nat) : Int), .int .u64 ((UInt64.toNat ((List.getD tt 3 0) >>> UInt64.ofNat 2) : Nat) : Int), .int .u64 0]) En890 (by kernel_rfl) ((plus_go _ (plusF ([List.getD tt 0 0, List.getD tt 1 0, (List.getD tt 2 0) &&& (3 : UInt64)] : List UInt64) ((List.getD tt 2 0) &&& ~~~ (3 : UInt64)) (List.getD tt 3 0) (0 : UInt64)) (plusF_len _ _ _ _) ((((List.getD tt 2 0) &&& ~~~ (3 : UInt64)) >>> UInt64.ofNat 2) ||| ((List.getD tt 3 0) <<< UInt64.ofNat 62)) ((List.getD tt 3 0) >>> UInt64.ofNat 2) (0 : UInt64)).mono ?_)
 rintro _ wo893 ⟨rfl, he896⟩
 refine ⟨_, rfl, ?_⟩
 intro ac892 En894
 have Hv895 : Ev w [] wo893 [.box bk16 (u64s tt) 65, .box bk1 (u64s l) 54, .box bk6 (u64s r) 52, .box bk11 (u64s (List.replicate 3 0)) 54, .box bk793 (u64s (plusF ([List.getD tt 0 0, List.getD tt 1 0, (List.getD tt 2 0) &&& (3 : UInt64)] : List UInt64) ((List.getD tt 2 0) &&& ~~~ (3 : UInt64)) (List.getD tt 3 0) (0 : UInt64))) 54] := Hv880.trans (Ev.call (R := [.box bk16 (u64s tt) 65, .box bk1 (u64s l) 54, .box bk6 (u64s r) 52, .box bk11 (u64s (List.replicate 3 0)) 54, .box bk793 (u64s (plusF ([List.getD tt 0 0, List.getD tt 1 0, (List.getD tt 2 0) &&& (3 : UInt64)] : List UInt64) ((List.getD tt 2 0) &&& ~~~ (3 : UInt64)) (List.getD tt 3 0) (0 : UInt64))) 54]) Hv880.heap [0, 1, 2, 3, 4] (by kernel_rfl) (by decide) he896)
 clear hM891 he896
 refine from_op (by kernel_rfl) ?_
 refine op_storeaggbox (d := none) (t := 54) (b := bk11) (off := 0) (k := 3) (m := 3) (xs := u64s (plusF (plusF ([List.getD tt 0 0, List.getD tt 1 0, (List.getD tt 2 0) &&& (3 : UInt64)] : List UInt64) ((List.getD tt 2 0) &&& ~~~ (3 : UInt64)) (List.getD tt 3 0) (0 : UInt64)) ((((List.getD tt 2 0) &&& ~~~ (3 : UInt64)) >>> UInt64.ofNat 2) ||| ((List.getD tt 3 0) <<< UInt64.ofNat 62)) ((List.getD tt 3 0) >>> UInt64.ofNat 2) (0 : UInt64))) (v := .agg (List.toArray (u64s (plusF (plusF ([List.getD tt 0 0, List.getD tt 1 0, (List.getD tt 2 0) &&& (3 : UInt64)] : List UInt64) ((List.getD tt 2 0) &&& ~~~ (3 : UInt64)) (List.getD tt 3 0) (0 : UInt64)) ((((List.getD tt 2 0) &&& ~~~ (3 : UInt64)) >>> UInt64.ofNat 2) ||| ((List.getD tt 3 0) <<< UInt64.ofNat 62)) ((List.getD tt 3 0) >>> UInt64.ofNat 2) (0 : UInt64))))) (cs' := u64s (plusF (plusF ([List.getD tt 0 0, List.getD tt 1 0, (List.getD tt 2 0) &&& (3 : UInt64)] : List UInt64) ((List.getD tt 2 0) &&& ~~~ (3 : UInt64)) (List.getD tt 3 0) (0 : UInt64)) ((((List.getD tt 2 0) &&& ~~~ (3 : UInt64)) >>> UInt64.ofNat 2) ||| ((List.getD tt 3 0) <<< UInt64.ofNat 62)) ((List.getD tt 3 0) >>> UInt64.ofNat 2) (0 : UInt64))) En894 (by kernel_rfl) Hv895 rfl rfl (u64s_lenh (plusF_len _ _ _ _)) (by rw [(u64s_lenh (List.length_replicate))]; decide) (by kernel_rfl) (u64s_one _) (store_whole (u64s_lenh (List.length_replicate))) (L' := [.box bk16 (u64s tt) 65, .box bk1 (u64s l) 54, .box bk6 (u64s r) 52, .box bk11 (u64s (plusF (plusF ([List.getD tt 0 0, List.getD tt 1 0, (List.getD tt 2 0) &&& (3 : UInt64)] : List UInt64) ((List.getD tt 2 0) &&& ~~~ (3 : UInt64)) (List.getD tt 3 0) (0 : UInt64)) ((((List.getD tt 2 0) &&& ~~~ (3 : UInt64)) >>> UInt64.ofNat 2) ||| ((List.getD tt 3 0) <<< UInt64.ofNat 62)) ((List.getD tt 3 0) >>> UInt64.ofNat 2) (0 : UInt64))) 54, .box bk793 (u64s (plusF ([List.getD tt 0 0, List.getD tt 1 0, (List.getD tt 2 0) &&& (3 : UInt64)] : List UInt64) ((List.getD tt 2 0) &&& ~~~ (3 : UInt64)) (List.getD tt 3 0) (0 : UInt64))) 54]) rfl ?_
 intro ac897 wo898  En899 Hv900
 refine from_end (by kernel_rfl) ?_
 refine then_normal ?_
 refine wp_ret ?_
 refine d_cell1 (v := .agg (List.toArray (u64s (plusF (plusF ([List.getD tt 0 0, List.getD tt 1 0, (List.getD tt 2 0) &&& (3 : UInt64)] : List UInt64) ((List.getD tt 2 0) &&& ~~~ (3 : UInt64)) (List.getD tt 3 0) (0 : UInt64)) ((((List.getD tt 2 0) &&& ~~~ (3 : UInt64)) >>> UInt64.ofNat 2) ||| ((List.getD tt 3 0) <<< UInt64.ofNat 62)) ((List.getD tt 3 0) >>> UInt64.ofNat 2) (0 : UInt64))))) (t := 4) (T := 54) (ad := ⟨bk11, 0, none⟩) En899 (by kernel_rfl) (by kernel_rfl) (Ev.cellAgg (t := 54) (k := 3) (off := 0) (m := 3) (xs := u64s (plusF (plusF ([List.getD tt 0 0, List.getD tt 1 0, (List.getD tt 2 0) &&& (3 : UInt64)] : List UInt64) ((List.getD tt 2 0) &&& ~~~ (3 : UInt64)) (List.getD tt 3 0) (0 : UInt64)) ((((List.getD tt 2 0) &&& ~~~ (3 : UInt64)) >>> UInt64.ofNat 2) ||| ((List.getD tt 3 0) <<< UInt64.ofNat 62)) ((List.getD tt 3 0) >>> UInt64.ofNat 2) (0 : UInt64))) Hv900 rfl (load_whole (u64s_lenh (plusF_len _ _ _ _))) (u64s_lenh (plusF_len _ _ _ _)) (by kernel_rfl) (by kernel_rfl)) ?_
 have hf := finF_val hTl (by omega)
 have hfin : dv B64 tt = dv B64 l * dv B64 r := by omega
 exact ⟨finF tt, rfl, Hv900.pick [] (by kernel_rfl) (by decide), rfl, hf.1, by rw [hf.2, hfin]⟩

end Go.Proofs.Ytnahplggflhdaaa
