/- Layer 9: the code of a text, by the program: the walk. -/
import Derived.Test.YtnahplggflhdaaaP3
namespace Go.Proofs.Ytnahplggflhdaaa
open Go.Dbr
set_option maxRecDepth 100000
set_option maxHeartbeats 2000000
set_option linter.unusedVariables false
set_option linter.unusedSimpArgs false

theorem block_plus {p : List UInt64} {c : List UInt8} (hp : p.length = 3) (hc : c.length ≤ 16) (hb : dv B64 p < 2722258935367507707706996859454145691648) :
    dv B64 (plusF p (loF c 0) (loF c 2) (UInt32.toUInt64 (List.getD (wordsF (padF c)) 4 0))) = dv B64 p + (leN c + 256 ^ c.length) ∧ leN c + 256 ^ c.length < 2722258935367507707706996859454145691648 := by
  have h1 := block_val hc
  have h2 : leN c + 256 ^ c.length < 2722258935367507707706996859454145691648 := by
    have := leN_lt c
    have h3 : 256 ^ c.length ≤ 256 ^ 16 := Nat.pow_le_pow_right (by decide) hc
    have h4 : (256 : Nat) ^ 16 = 340282366920938463463374607431768211456 := rfl
    omega
  have h3 := plusF_val hp (loF c 0) (loF c 2) (UInt32.toUInt64 (List.getD (wordsF (padF c)) 4 0)) (by simp only [B64] at *; omega)
  refine ⟨by rw [h3, ← h1]; omega, h2⟩
theorem mac_next {r x l' a : Nat} {l : List UInt8} {q : Nat} (hm : x % 1361129467683753853853498429727072845819 = macQ r l q) (ha : a = x + (leN (chunk l q) + 256 ^ (chunk l q).length)) (h : l' % 1361129467683753853853498429727072845819 = a * r % 1361129467683753853853498429727072845819) : l' % 1361129467683753853853498429727072845819 = macQ r l (q + 1) := by
  rw [h, ha, macQ, ← hm, Nat.mul_mod, Nat.add_mod, ← Nat.mul_mod_mod, ← Nat.add_mod]
  conv => rhs; rw [Nat.mul_mod, Nat.mod_add_mod]
  rw [Nat.mul_mod_mod]
/-- one try to take 2^130 - 5 away -/
theorem top_ge {v : List UInt64} (hl : v.length = 3) (hb : dv B64 v < 2722258935367507707706996859454145691648) : dv B64 (plusF v 5 0 0) = dv B64 v + 5 ∧ (4 ≤ (List.getD (plusF v 5 0 0) 2 0).toNat ↔ 1361129467683753853853498429727072845819 ≤ dv B64 v) := by
  have e0 : (0 : UInt64).toNat = 0 := rfl
  have e5 : (5 : UInt64).toNat = 5 := rfl
  have h1 := plusF_val hl 5 0 0 (by rw [e0, e5]; simp only [B64] at *; omega)
  rw [e0, e5] at h1
  have h2 : dv B64 (plusF v 5 0 0) = dv B64 v + 5 := by omega
  refine ⟨h2, ?_⟩
  have h3 : ∀ l : List UInt64, l.length = 3 → (4 ≤ (List.getD l 2 0).toNat ↔ 1361129467683753853853498429727072845824 ≤ dv B64 l) := fun l hl => by
    match l, hl with
    | [a, b, c], _ =>
      have ha := lt64 a; have hb := lt64 b
      simp only [dv, List.getD, List.getElem?_cons_zero, List.getElem?_cons_succ, Option.getD_some, B64]
      omega
  rw [h3 _ (plusF_len _ _ _ _), h2]
  omega
theorem top_off {l : List UInt64} (hl : l.length = 3) (h : 4 ≤ (List.getD l 2 0).toNat) : dv B64 (List.set l 2 (List.getD l 2 0 - 4)) + 1361129467683753853853498429727072845824 = dv B64 l := by
  match l, hl with
  | [a, b, c], _ =>
    have e4 : (4 : UInt64).toNat = 4 := rfl
    simp only [List.set_cons_succ, List.set_cons_zero, dv, List.getD, List.getElem?_cons_zero, List.getElem?_cons_succ, Option.getD_some, B64] at *
    rw [UInt64.toNat_sub_of_le _ _ (by rw [UInt64.le_iff_toNat_le, e4]; exact h), e4]
    omega
theorem drop_next {l : List UInt8} {q m : Nat} (hm : m = min (List.length (List.drop (16 * q) l)) 16) : List.drop m (List.drop (16 * q) l) = List.drop (16 * (q + 1)) l := by
  rw [List.drop_drop]
  rw [List.length_drop] at hm
  by_cases h : 16 * q + 16 ≤ l.length
  · rw [show 16 * q + m = 16 * (q + 1) by omega]
  · rw [List.drop_eq_nil_of_le (by omega), List.drop_eq_nil_of_le (by omega)]
theorem byte_of {l : List UInt64} {i : Nat} (hl : l.length = 3) (hi : i < 16) : UInt64.toUInt8 (List.getD l (i / 8) 0 >>> UInt64.ofNat (8 * (i % 8))) = UInt8.ofNat (dv B64 l / 256 ^ i) := by
  have key : ∀ (x : UInt64) (k r : Nat), k < 8 → UInt64.toUInt8 (x >>> UInt64.ofNat (8 * k)) = UInt8.ofNat ((x.toNat + B64 * r) / 256 ^ k) := fun x k r hk => by
    apply UInt8.toNat_inj.1
    have hx := lt64 x
    rw [UInt64.toNat_toUInt8, UInt64.toNat_shiftRight, UInt64.toNat_ofNat']
    rw [show (8 * k % 2 ^ 64 % 64) = 8 * k by omega, Nat.shiftRight_eq_div_pow, UInt8.toNat_ofNat']
    simp only [B64]
    match k, hk with
    | 0, _ => omega
    | 1, _ => omega
    | 2, _ => omega
    | 3, _ => omega
    | 4, _ => omega
    | 5, _ => omega
    | 6, _ => omega
    | 7, _ => omega
  match l, hl with
  | [a, b, c], _ =>
    have ha := lt64 a
    by_cases h : i < 8
    · rw [show i / 8 = 0 by omega, show i % 8 = i by omega]
      exact key a i _ h
    · rw [show i / 8 = 1 by omega]
      have e : dv B64 [a, b, c] / 256 ^ i = (b.toNat + B64 * (c.toNat + B64 * 0)) / 256 ^ (i % 8) := by
        conv => lhs; rw [show i = 8 + i % 8 by omega, Nat.pow_add, ← Nat.div_div_eq_div_mul]
        congr 1
        show (a.toNat + B64 * (b.toNat + B64 * (c.toNat + B64 * 0))) / 18446744073709551616 = _
        simp only [B64]
        omega
      rw [e]
      exact key b (i % 8) _ (by omega)
theorem mac_done {r x : Nat} {l : List UInt8} {q : Nat} (h : x % 1361129467683753853853498429727072845819 = macQ r l q) (hx : x < 1361129467683753853853498429727072845819) : x = macQ r l q := by rw [← h, Nat.mod_eq_of_lt hx]

theorem poly_go (w : World) (lk : List UInt8) (hk : List.length lk = 32) (ax : Option Addr) (nx cx : Nat) (lx : List UInt8) (ex : nx = List.length lx) (ix : InB w [] ax cx lx) : Calls Try.prog 13 #[.agg (List.toArray (bys lk)), .slice ax nx cx] w fun e w' => e = .returned (.agg (List.toArray (bys (polyF lk lx)))) ∧ Ev w [] w' [] := by
 subst ex
 have hs := ix.small
 have hcx := ix.cap
 have hwk := wordsF_len (l := lk) (m := 8) (by omega)
 refine d_start [(0, .agg (List.toArray (bys lk))), (1, .slice ax (List.length lx) cx)] 101 Go.Proofs.Try.func13 Go.Proofs.Try.ntmps13 rfl (by kernel_rfl) (by kernel_rfl) ?_
 intro act0 En0
 have Hv0 : Ev w [] w [] := Ev.refl (Heap.nil _)
 refine wp_seq ?_
 refine region_from ?_
 refine from_op (by kernel_rfl) ?_
 refine op_newbox (d := some 2) (T := 22) (v := .agg (List.toArray (bys lk))) (cs := bys lk) En0 (by kernel_rfl) rfl Hv0 ?_
 intro ac2 wo3 bk1 En4 Hv5
 refine from_op (by kernel_rfl) ?_
 refine op_alloc (d := some 4) (T := 31) (x := .tuple #[]) (z := .agg (List.toArray (bys (List.replicate 16 0)))) (cs := bys (List.replicate 16 0)) En4 (by kernel_rfl) (by kernel_rfl) (by kernel_rfl) Hv5 ?_
 intro ac7 wo8 bk6 En9 Hv10
 refine from_end (by kernel_rfl) ?_
 refine then_normal ?_
 refine wp_seq ?_
 refine region_from ?_
 refine from_op (by kernel_rfl) ?_
 refine op_slicearr (d := some 15) (t := 22) (e := 5) (sz := 1) (m := 32) (lo := 0) (hi := 32) (b := bk1) (off := 0) (lov := none) (hiv := none) (o := 0) En9 (by kernel_rfl) (by kernel_rfl) (by kernel_rfl) (by omega) (by omega) (by omega) (.inl ⟨rfl, rfl⟩) (.inl ⟨rfl, rfl⟩) (by omega) ?_
 intro ac11 En12
 refine from_op (by kernel_rfl) ?_
 have hM14 : Heap wo8 [] := Hv10.heap.pick [] (by kernel_rfl) (by decide)
 refine op_call (d := some 16) (f := 19) (args := #[.slice (some ⟨bk1, 0, none⟩) 32 32]) En12 (by kernel_rfl) ((words_go _ (some ⟨bk1, 0, none⟩) 32 32 lk (by first | rfl | (simp; done) | (simp; omega) | omega) (bys_inbox (Hv10.heap.roBox (k := 0) (m := 32) rfl (load_whole (bys_lenh hk)) [] (by kernel_rfl) rfl) hk (by decide))).mono ?_)
 rintro _ wo16 ⟨aoq13, coq13, rfl, he19⟩
 refine ⟨_, rfl, ?_⟩
 intro ac15 En17
 have Hv18 : Ev w [] wo16 [.vec aoq13 coq13 1 (u32s (wordsF lk)) 23, .box bk1 (bys lk) 22, .box bk6 (bys (List.replicate 16 0)) 31] := Hv10.trans (Ev.call (R := [.box bk1 (bys lk) 22, .box bk6 (bys (List.replicate 16 0)) 31]) Hv10.heap [0, 1] (by kernel_rfl) (by decide) he19)
 clear hM14 he19
 refine from_op (by kernel_rfl) ?_
 refine op_alloc (d := some 5) (T := 43) (x := .tuple #[]) (z := .slice none 0 0) (cs := [.slice none 0 0]) En17 (by kernel_rfl) (by kernel_rfl) (by kernel_rfl) Hv18 ?_
 intro ac21 wo22 bk20 En23 Hv24
 refine from_op (by kernel_rfl) ?_
 refine op_storebox2 (d := none) (t := 43) (b := bk20) (off := 0) (k := 3) (v := .slice aoq13 (List.length (wordsF lk)) coq13) En23 (by kernel_rfl) Hv24 rfl rfl (by kernel_rfl) rfl rfl (L' := [.vec aoq13 coq13 1 (u32s (wordsF lk)) 23, .box bk1 (bys lk) 22, .box bk6 (bys (List.replicate 16 0)) 31, .box bk20 [.slice aoq13 (List.length (wordsF lk)) coq13] 43]) rfl ?_
 intro ac25 wo26  En27 Hv28
 refine from_end (by kernel_rfl) ?_
 refine then_normal ?_
 refine wp_seq ?_
 refine region_from ?_
 refine d_pures [(1, .slice ax (List.length lx) cx), (4, pt bk6), (5, pt bk20), (6, .func (.func 25) #[] #[pt bk20])] [.func (.func 25) #[] #[pt bk20], .func (.func 25) #[] #[pt bk20]] 2 En27 (by kernel_rfl) (by kernel_rfl) rfl ?_
 intro ac29 En30
 refine from_end (by kernel_rfl) ?_
 refine then_normal ?_
 refine wp_seq ?_
 refine region_from ?_
 refine d_pures [(1, .slice ax (List.length lx) cx), (4, pt bk6), (5, pt bk20), (6, .func (.func 25) #[] #[pt bk20]), (18, .func (.func 25) #[] #[pt bk20])] [.func (.func 25) #[] #[pt bk20]] 1 En30 (by kernel_rfl) (by kernel_rfl) rfl ?_
 intro ac31 En32
 refine from_op (by kernel_rfl) ?_
 have hM33 : Heap wo26 [.box bk20 [.slice aoq13 (List.length (wordsF lk)) coq13] 43, .vec aoq13 coq13 1 (u32s (wordsF lk)) 23] := Hv28.heap.pick [3, 0] (by kernel_rfl) (by decide)
 refine op_call (d := some 19) (f := 25) (args := #[.int .i64 0, pt bk20]) En32 (by kernel_rfl) ((two_go _ bk20 aoq13 coq13 (wordsF lk) 0 (by omega) (by decide) hM33).mono ?_)
 rintro _ wo35 ⟨rfl, he38⟩
 refine ⟨_, rfl, ?_⟩
 intro ac34 En36
 have Hv37 : Ev w [] wo35 [.box bk20 [.slice aoq13 (List.length (wordsF lk)) coq13] 43, .vec aoq13 coq13 1 (u32s (wordsF lk)) 23, .box bk1 (bys lk) 22, .box bk6 (bys (List.replicate 16 0)) 31] := Hv28.trans (Ev.call (R := [.box bk1 (bys lk) 22, .box bk6 (bys (List.replicate 16 0)) 31]) Hv28.heap [3, 0, 1, 2] (by kernel_rfl) (by decide) he38)
 clear hM33 he38
 refine d_pures [(1, .slice ax (List.length lx) cx), (4, pt bk6), (5, pt bk20), (6, .func (.func 25) #[] #[pt bk20]), (20, .int .u64 (IntKind.wrap .u64 ((BitVec.ofInt (IntKind.bits .u64) ((UInt64.toNat (twoF (wordsF lk) 0) : Nat) : Int) &&& BitVec.ofInt (IntKind.bits .u64) (1152921487695413247 : Int)).toNat : Int)))] [.int .u64 (IntKind.wrap .u64 ((BitVec.ofInt (IntKind.bits .u64) ((UInt64.toNat (twoF (wordsF lk) 0) : Nat) : Int) &&& BitVec.ofInt (IntKind.bits .u64) (1152921487695413247 : Int)).toNat : Int))] 3 En36 (by kernel_rfl) (by kernel_rfl) rfl ?_
 intro ac39 En40
 rw [Go.Dbr.u64_and (a := ((UInt64.toNat (twoF (wordsF lk) 0) : Nat) : Int)) (b := (1152921487695413247 : Int)) (x := twoF (wordsF lk) 0) (y := (1152921487695413247 : UInt64)) rfl rfl] at En40
 refine d_pures [(1, .slice ax (List.length lx) cx), (4, pt bk6), (5, pt bk20), (6, .func (.func 25) #[] #[pt bk20]), (20, .int .u64 ((UInt64.toNat ((twoF (wordsF lk) 0) &&& (1152921487695413247 : UInt64)) : Nat) : Int)), (21, .func (.func 25) #[] #[pt bk20])] [.func (.func 25) #[] #[pt bk20]] 4 En40 (by kernel_rfl) (by kernel_rfl) rfl ?_
 intro ac41 En42
 refine from_op (by kernel_rfl) ?_
 have hM43 : Heap wo35 [.box bk20 [.slice aoq13 (List.length (wordsF lk)) coq13] 43, .vec aoq13 coq13 1 (u32s (wordsF lk)) 23] := Hv37.heap.pick [0, 1] (by kernel_rfl) (by decide)
 refine op_call (d := some 22) (f := 25) (args := #[.int .i64 2, pt bk20]) En42 (by kernel_rfl) ((two_go _ bk20 aoq13 coq13 (wordsF lk) 2 (by omega) (by decide) hM43).mono ?_)
 rintro _ wo45 ⟨rfl, he48⟩
 refine ⟨_, rfl, ?_⟩
 intro ac44 En46
 have Hv47 : Ev w [] wo45 [.box bk20 [.slice aoq13 (List.length (wordsF lk)) coq13] 43, .vec aoq13 coq13 1 (u32s (wordsF lk)) 23, .box bk1 (bys lk) 22, .box bk6 (bys (List.replicate 16 0)) 31] := Hv37.trans (Ev.call (R := [.box bk1 (bys lk) 22, .box bk6 (bys (List.replicate 16 0)) 31]) Hv37.heap [0, 1, 2, 3] (by kernel_rfl) (by decide) he48)
 clear hM43 he48
 refine d_pures [(1, .slice ax (List.length lx) cx), (4, pt bk6), (5, pt bk20), (6, .func (.func 25) #[] #[pt bk20]), (20, .int .u64 ((UInt64.toNat ((twoF (wordsF lk) 0) &&& (1152921487695413247 : UInt64)) : Nat) : Int)), (23, .int .u64 (IntKind.wrap .u64 ((BitVec.ofInt (IntKind.bits .u64) ((UInt64.toNat (twoF (wordsF lk) 2) : Nat) : Int) &&& BitVec.ofInt (IntKind.bits .u64) (1152921487695413244 : Int)).toNat : Int)))] [.int .u64 (IntKind.wrap .u64 ((BitVec.ofInt (IntKind.bits .u64) ((UInt64.toNat (twoF (wordsF lk) 2) : Nat) : Int) &&& BitVec.ofInt (IntKind.bits .u64) (1152921487695413244 : Int)).toNat : Int))] 6 En46 (by kernel_rfl) (by kernel_rfl) rfl ?_
 intro ac49 En50
 rw [Go.Dbr.u64_and (a := ((UInt64.toNat (twoF (wordsF lk) 2) : Nat) : Int)) (b := (1152921487695413244 : Int)) (x := twoF (wordsF lk) 2) (y := (1152921487695413244 : UInt64)) rfl rfl] at En50
 refine d_pures [(1, .slice ax (List.length lx) cx), (4, pt bk6), (5, pt bk20), (6, .func (.func 25) #[] #[pt bk20]), (24, .agg (List.toArray (u64s ([(twoF (wordsF lk) 0) &&& (1152921487695413247 : UInt64), (twoF (wordsF lk) 2) &&& (1152921487695413244 : UInt64)] : List UInt64))))] [.agg (List.toArray (u64s ([(twoF (wordsF lk) 0) &&& (1152921487695413247 : UInt64), (twoF (wordsF lk) 2) &&& (1152921487695413244 : UInt64)] : List UInt64)))] 7 En50 (by kernel_rfl) (by kernel_rfl) rfl ?_
 intro ac51 En52
 refine from_op (by kernel_rfl) ?_
 refine op_alloc (d := some 7) (T := 52) (x := .tuple #[]) (z := .agg (List.toArray (u64s (List.replicate 2 0)))) (cs := u64s (List.replicate 2 0)) En52 (by kernel_rfl) (by kernel_rfl) (by kernel_rfl) Hv47 ?_
 intro ac54 wo55 bk53 En56 Hv57
 refine from_op (by kernel_rfl) ?_
 refine op_storeaggbox (d := none) (t := 52) (b := bk53) (off := 0) (k := 4) (m := 2) (xs := u64s ([(twoF (wordsF lk) 0) &&& (1152921487695413247 : UInt64), (twoF (wordsF lk) 2) &&& (1152921487695413244 : UInt64)] : List UInt64)) (v := .agg (List.toArray (u64s ([(twoF (wordsF lk) 0) &&& (1152921487695413247 : UInt64), (twoF (wordsF lk) 2) &&& (1152921487695413244 : UInt64)] : List UInt64)))) (cs' := u64s ([(twoF (wordsF lk) 0) &&& (1152921487695413247 : UInt64), (twoF (wordsF lk) 2) &&& (1152921487695413244 : UInt64)] : List UInt64)) En56 (by kernel_rfl) Hv57 rfl rfl (u64s_lenh (show List.length ([(twoF (wordsF lk) 0) &&& (1152921487695413247 : UInt64), (twoF (wordsF lk) 2) &&& (1152921487695413244 : UInt64)] : List UInt64) = 2 from rfl)) (by rw [(u64s_lenh (List.length_replicate))]; decide) (by kernel_rfl) (u64s_one _) (store_whole (u64s_lenh (List.length_replicate))) (L' := [.box bk20 [.slice aoq13 (List.length (wordsF lk)) coq13] 43, .vec aoq13 coq13 1 (u32s (wordsF lk)) 23, .box bk1 (bys lk) 22, .box bk6 (bys (List.replicate 16 0)) 31, .box bk53 (u64s ([(twoF (wordsF lk) 0) &&& (1152921487695413247 : UInt64), (twoF (wordsF lk) 2) &&& (1152921487695413244 : UInt64)] : List UInt64)) 52]) rfl ?_
 intro ac58 wo59  En60 Hv61
 refine from_end (by kernel_rfl) ?_
 replace Hv61 : Ev w [] wo59 [.box bk20 [.slice aoq13 (List.length (wordsF lk)) coq13] 43, .vec aoq13 coq13 1 (u32s (wordsF lk)) 23, .box bk1 (bys lk) 22, .box bk6 (bys (List.replicate 16 0)) 31, .box bk53 (u64s (rF lk)) 52] := Hv61
 refine then_normal ?_
 refine wp_seq ?_
 refine region_from ?_
 refine from_op (by kernel_rfl) ?_
 refine op_alloc (d := some 8) (T := 54) (x := .tuple #[]) (z := .agg (List.toArray (u64s (List.replicate 3 0)))) (cs := u64s (List.replicate 3 0)) En60 (by kernel_rfl) (by kernel_rfl) (by kernel_rfl) Hv61 ?_
 intro ac63 wo64 bk62 En65 Hv66
 refine from_end (by kernel_rfl) ?_
 refine then_normal ?_
 refine wp_seq ?_
 refine wp_block ?_
 refine loop_m (fun ms67 ac wo => ∃ (q : Nat) (at1 : Option Addr) (ct : Nat) (p : List UInt64), ms67 = (List.length lx + 16 - 16 * q : Nat) ∧ Env ac 101 [(1, .slice at1 (List.length (List.drop (16 * q) lx)) ct), (4, pt bk6), (5, pt bk20), (6, .func (.func 25) #[] #[pt bk20]), (7, pt bk53), (8, pt bk62)] ∧ Ev w [] wo [.box bk62 (u64s p) 54, .box bk20 [.slice aoq13 (List.length (wordsF lk)) coq13] 43, .vec aoq13 coq13 1 (u32s (wordsF lk)) 23, .box bk6 (bys (List.replicate 16 0)) 31, .box bk53 (u64s (rF lk)) 52] ∧ (InB w [] at1 ct (List.drop (16 * q) lx)) ∧ (16 * q < List.length lx + 16) ∧ (List.length p = 3) ∧ (dv B64 p < 2722258935367507707706996859454145691648) ∧ (dv B64 p % 1361129467683753853853498429727072845819 = macQ (dv B64 (rF lk)) lx q)) ⟨_, 0, ax, cx, List.replicate 3 0, rfl, En65.sub (by kernel_rfl), Hv66.pick [5, 0, 1, 3, 4] (by kernel_rfl) (by decide), ix, by omega, (List.length_replicate), by rw [dv_replicate]; decide, by rw [dv_replicate]; rfl⟩ ?_
 rintro mm73 ac69 wo70 ⟨q, at1, ct, p, rfl, En71, Hv72, hT, hq, hp, hpb, hpm⟩
 refine wp_seq ?_
 refine wp_seq ?_
 refine region_from ?_
 refine d_pures [(1, .slice at1 (List.length (List.drop (16 * q) lx)) ct), (4, pt bk6), (5, pt bk20), (6, .func (.func 25) #[] #[pt bk20]), (7, pt bk53), (8, pt bk62), (27, .bool (decide (((List.length (List.drop (16 * q) lx) : Nat) : Int) > (0 : Int))))] [.slice at1 (List.length (List.drop (16 * q) lx)) ct, .int .i64 ((List.length (List.drop (16 * q) lx) : Nat) : Int), .bool (decide (((List.length (List.drop (16 * q) lx) : Nat) : Int) > (0 : Int)))] 3 En71 (by kernel_rfl) (by kernel_rfl) rfl ?_
 intro ac74 En75
 refine from_end (by kernel_rfl) ?_
 refine then_normal ?_
 refine cond_at En75 (t := decide (((List.length (List.drop (16 * q) lx) : Nat) : Int) > (0 : Int))) (by kernel_rfl) (fun hc76 => ?_) (fun hc76 => ?_)
 ·
  replace hc76 : ((List.length (List.drop (16 * q) lx) : Nat) : Int) > (0 : Int) := of_decide_eq_true hc76
  refine wp_skip ?_
  refine then_normal ?_
  refine wp_block ?_
  refine wp_seq ?_
  refine region_from ?_
  refine from_op (by kernel_rfl) ?_
  refine op_alloc (d := some 9) (T := 55) (x := .tuple #[]) (z := .agg (List.toArray (bys (List.replicate 24 0)))) (cs := bys (List.replicate 24 0)) En75 (by kernel_rfl) (by kernel_rfl) (by kernel_rfl) Hv72 ?_
  intro ac78 wo79 bk77 En80 Hv81
  refine from_end (by kernel_rfl) ?_
  refine then_normal ?_
  refine wp_seq ?_
  refine region_from ?_
  refine from_op (by kernel_rfl) ?_
  refine op_slicearr (d := some 28) (t := 55) (e := 5) (sz := 1) (m := 24) (lo := 0) (hi := 16) (b := bk77) (off := 0) (lov := none) (hiv := (some (.int .i64 16))) (o := 0) En80 (by kernel_rfl) (by kernel_rfl) (by kernel_rfl) (by omega) (by omega) (by omega) (.inl ⟨rfl, rfl⟩) (.inr ⟨.i64, rfl⟩) (by omega) ?_
  intro ac82 En83
  refine d_pures [(1, .slice at1 (List.length (List.drop (16 * q) lx)) ct), (4, pt bk6), (5, pt bk20), (6, .func (.func 25) #[] #[pt bk20]), (7, pt bk53), (8, pt bk62), (9, pt bk77), (28, .slice (some ⟨bk77, 0, none⟩) 16 24), (29, .slice at1 (List.length (List.drop (16 * q) lx)) ct)] [.slice at1 (List.length (List.drop (16 * q) lx)) ct] 2 En83 (by kernel_rfl) (by kernel_rfl) rfl ?_
  intro ac84 En85
  refine from_op (by kernel_rfl) ?_
  have hcy86 : Nat.min (List.length (List.drop (16 * q) lx)) 16 = min (List.length (List.drop (16 * q) lx)) 16 := by show min _ _ = _; omega
  refine op_copybox (d := some 30) (dT := 25) (sT := 25) (ty := 3) (elem := 5) (b := bk77) (off := 0) (k := 5) (m := min (List.length (List.drop (16 * q) lx)) 16) (xs := bys (List.drop (16 * q) lx)) (ys := bys (List.take (min (List.length (List.drop (16 * q) lx)) 16) (List.drop (16 * q) lx))) (dLen := 16) (dCap := 24) (so := at1) (sLen := List.length (List.drop (16 * q) lx)) (sCap := ct) En85 (by kernel_rfl) Hv81 rfl (by kernel_rfl) (by kernel_rfl) (hT.ev Hv81).reads hT.nz hcy86 (by simp [bys, List.map_take]) (bys_lenh (by first | (simp; done) | (simp; omega))) (by rw [bys_lenh (List.length_replicate)]; omega) (bys_one _) (cs' := bys (List.take 0 (List.replicate 24 0) ++ (List.take (min (List.length (List.drop (16 * q) lx)) 16) (List.drop (16 * q) lx)) ++ List.drop (0 + (min (List.length (List.drop (16 * q) lx)) 16)) (List.replicate 24 0))) (by simp [bys, List.map_append, List.map_take, List.map_drop]) (L' := [.box bk62 (u64s p) 54, .box bk20 [.slice aoq13 (List.length (wordsF lk)) coq13] 43, .vec aoq13 coq13 1 (u32s (wordsF lk)) 23, .box bk6 (bys (List.replicate 16 0)) 31, .box bk53 (u64s (rF lk)) 52, .box bk77 (bys (List.take 0 (List.replicate 24 0) ++ (List.take (min (List.length (List.drop (16 * q) lx)) 16) (List.drop (16 * q) lx)) ++ List.drop (0 + (min (List.length (List.drop (16 * q) lx)) 16)) (List.replicate 24 0))) 55]) rfl ?_
  intro ac87 wo88  En89 Hv90
  refine d_pures [(1, .slice at1 (List.length (List.drop (16 * q) lx)) ct), (4, pt bk6), (5, pt bk20), (6, .func (.func 25) #[] #[pt bk20]), (7, pt bk53), (8, pt bk62), (9, pt bk77), (10, .int .i64 ((min (List.length (List.drop (16 * q) lx)) 16 : Nat) : Int))] [.int .i64 ((min (List.length (List.drop (16 * q) lx)) 16 : Nat) : Int)] 4 En89 (by kernel_rfl) (by kernel_rfl) rfl ?_
  intro ac91 En92
  refine from_end (by kernel_rfl) ?_
  have hDl : List.length (List.drop (16 * q) lx) = List.length lx - 16 * q := List.length_drop
  have hpl := padF_len (chunk_le lx q)
  refine then_normal ?_
  refine wp_seq ?_
  refine region_from ?_
  refine d_pures [(1, .slice at1 (List.length (List.drop (16 * q) lx)) ct), (4, pt bk6), (5, pt bk20), (6, .func (.func 25) #[] #[pt bk20]), (7, pt bk53), (8, pt bk62), (9, pt bk77), (10, .int .i64 ((min (List.length (List.drop (16 * q) lx)) 16 : Nat) : Int)), (31, .int .i64 ((min (List.length (List.drop (16 * q) lx)) 16 : Nat) : Int))] [.int .i64 ((min (List.length (List.drop (16 * q) lx)) 16 : Nat) : Int)] 1 En92 (by kernel_rfl) (by kernel_rfl) rfl ?_
  intro ac93 En94
  refine from_op (by kernel_rfl) ?_
  refine op_val (d := some 32) (x := Instr.indexAt 55 (pt bk77) (.int .i64 ((min (List.length (List.drop (16 * q) lx)) 16 : Nat) : Int))) (v := .pointer (some ⟨bk77, min (List.length (List.drop (16 * q) lx)) 16, none⟩)) En94 (by kernel_rfl) (Go.Dbr.run_indexarr (e := 5) (sz := 1) (m := 24) (j := min (List.length (List.drop (16 * q) lx)) 16) (o := min (List.length (List.drop (16 * q) lx)) 16) (by kernel_rfl) (by kernel_rfl) (by omega) (by omega) (by omega) _) ?_
  intro ac95 En96
  refine from_op (by kernel_rfl) ?_
  have hb97 : min (List.length (List.drop (16 * q) lx)) 16 < List.length (List.take 0 (List.replicate 24 0) ++ (List.take (min (List.length (List.drop (16 * q) lx)) 16) (List.drop (16 * q) lx)) ++ List.drop (0 + (min (List.length (List.drop (16 * q) lx)) 16)) (List.replicate 24 0)) := by rw [(copy_len (List.length_replicate) (by first | (simp; done) | (simp; omega)) (by omega))]; omega
  refine op_storebox2 (d := none) (t := 5) (b := bk77) (off := min (List.length (List.drop (16 * q) lx)) 16) (k := 5) (v := .int .u8 1) En96 (by kernel_rfl) Hv90 rfl (bys_getD hb97) (by kernel_rfl) rfl (bys_set _ _ (1 : UInt8)) (L' := [.box bk62 (u64s p) 54, .box bk20 [.slice aoq13 (List.length (wordsF lk)) coq13] 43, .vec aoq13 coq13 1 (u32s (wordsF lk)) 23, .box bk6 (bys (List.replicate 16 0)) 31, .box bk53 (u64s (rF lk)) 52, .box bk77 (bys (List.set (List.take 0 (List.replicate 24 0) ++ (List.take (min (List.length (List.drop (16 * q) lx)) 16) (List.drop (16 * q) lx)) ++ List.drop (0 + (min (List.length (List.drop (16 * q) lx)) 16)) (List.replicate 24 0)) (min (List.length (List.drop (16 * q) lx)) 16) (1 : UInt8))) 55]) rfl ?_
  intro ac98 wo99  En100 Hv101
  refine from_end (by kernel_rfl) ?_
  rw [show (List.set (List.take 0 (List.replicate 24 0) ++ (List.take (min (List.length (List.drop (16 * q) lx)) 16) (List.drop (16 * q) lx)) ++ List.drop (0 + (min (List.length (List.drop (16 * q) lx)) 16)) (List.replicate 24 0)) (min (List.length (List.drop (16 * q) lx)) 16) (1 : UInt8)) = (padF (chunk lx q)) from pad_eq rfl rfl] at Hv101
  refine then_normal ?_
  refine wp_seq ?_
  refine region_from ?_
  refine d_pures [(1, .slice at1 (List.length (List.drop (16 * q) lx)) ct), (4, pt bk6), (5, pt bk20), (6, .func (.func 25) #[] #[pt bk20]), (7, pt bk53), (8, pt bk62), (9, pt bk77), (10, .int .i64 ((min (List.length (List.drop (16 * q) lx)) 16 : Nat) : Int)), (33, .slice at1 (List.length (List.drop (16 * q) lx)) ct), (34, .int .i64 ((min (List.length (List.drop (16 * q) lx)) 16 : Nat) : Int))] [.slice at1 (List.length (List.drop (16 * q) lx)) ct, .int .i64 ((min (List.length (List.drop (16 * q) lx)) 16 : Nat) : Int)] 2 En100 (by kernel_rfl) (by kernel_rfl) rfl ?_
  intro ac102 En103
  refine from_op (by kernel_rfl) ?_
  have hcap104 := hT.cap
  refine op_slice (d := some 35) (t := 25) (e := 5) (sz := 1) (len := List.length (List.drop (16 * q) lx)) (cap := ct) (lo := min (List.length (List.drop (16 * q) lx)) 16) (hi := List.length (List.drop (16 * q) lx)) (ao := at1) (lov := (some (.int .i64 ((min (List.length (List.drop (16 * q) lx)) 16 : Nat) : Int)))) (hiv := none) En103 (by kernel_rfl) (by kernel_rfl) (by kernel_rfl) (by omega) (by omega) (.inr ⟨.i64, rfl⟩) (.inl ⟨rfl, rfl⟩) ?_
  intro ac105 En106
  refine d_pures [(1, .slice (cutAt at1 ct (min (List.length (List.drop (16 * q) lx)) 16) 1) ((List.length (List.drop (16 * q) lx)) - (min (List.length (List.drop (16 * q) lx)) 16)) (ct - (min (List.length (List.drop (16 * q) lx)) 16))), (4, pt bk6), (5, pt bk20), (6, .func (.func 25) #[] #[pt bk20]), (7, pt bk53), (8, pt bk62), (9, pt bk77), (10, .int .i64 ((min (List.length (List.drop (16 * q) lx)) 16 : Nat) : Int))] [.slice (cutAt at1 ct (min (List.length (List.drop (16 * q) lx)) 16) 1) ((List.length (List.drop (16 * q) lx)) - (min (List.length (List.drop (16 * q) lx)) 16)) (ct - (min (List.length (List.drop (16 * q) lx)) 16))] 4 En106 (by kernel_rfl) (by kernel_rfl) rfl ?_
  intro ac107 En108
  refine from_end (by kernel_rfl) ?_
  have hTn : InB w [] (cutAt at1 ct (min (List.length (List.drop (16 * q) lx)) 16) 1) (ct - (min (List.length (List.drop (16 * q) lx)) 16)) (List.drop (16 * (q + 1)) lx) := by have h := hT.drop (min (List.length (List.drop (16 * q) lx)) 16) (by omega); rwa [drop_next rfl] at h
  have el109 : (List.length (List.drop (16 * q) lx)) - (min (List.length (List.drop (16 * q) lx)) 16) = List.length (List.drop (16 * (q + 1)) lx) := by rw [hDl, List.length_drop]; omega
  rw [el109] at En108
  have hwp : List.length (wordsF (padF (chunk lx q))) = 6 := wordsF_len (by rw [padF_len (chunk_le lx q)])
  refine then_normal ?_
  refine wp_seq ?_
  refine region_from ?_
  refine from_op (by kernel_rfl) ?_
  refine op_slicearr (d := some 36) (t := 55) (e := 5) (sz := 1) (m := 24) (lo := 0) (hi := 24) (b := bk77) (off := 0) (lov := none) (hiv := none) (o := 0) En108 (by kernel_rfl) (by kernel_rfl) (by kernel_rfl) (by omega) (by omega) (by omega) (.inl ⟨rfl, rfl⟩) (.inl ⟨rfl, rfl⟩) (by omega) ?_
  intro ac110 En111
  refine from_op (by kernel_rfl) ?_
  have hM113 : Heap wo99 [] := Hv101.heap.pick [] (by kernel_rfl) (by decide)
  refine op_call (d := some 37) (f := 19) (args := #[.slice (some ⟨bk77, 0, none⟩) 24 24]) En111 (by kernel_rfl) ((words_go _ (some ⟨bk77, 0, none⟩) 24 24 (padF (chunk lx q)) (by first | rfl | (simp; done) | (simp; omega) | omega) (bys_inbox (Hv101.heap.roBox (k := 5) (m := 24) rfl (load_whole (bys_lenh (padF_len (chunk_le lx q)))) [] (by kernel_rfl) rfl) (padF_len (chunk_le lx q)) (by decide))).mono ?_)
  rintro _ wo115 ⟨aoq112, coq112, rfl, he118⟩
  refine ⟨_, rfl, ?_⟩
  intro ac114 En116
  have Hv117 : Ev w [] wo115 [.vec aoq112 coq112 1 (u32s (wordsF (padF (chunk lx q)))) 23, .box bk62 (u64s p) 54, .box bk20 [.slice aoq13 (List.length (wordsF lk)) coq13] 43, .vec aoq13 coq13 1 (u32s (wordsF lk)) 23, .box bk6 (bys (List.replicate 16 0)) 31, .box bk53 (u64s (rF lk)) 52, .box bk77 (bys (padF (chunk lx q))) 55] := Hv101.trans (Ev.call (R := [.box bk62 (u64s p) 54, .box bk20 [.slice aoq13 (List.length (wordsF lk)) coq13] 43, .vec aoq13 coq13 1 (u32s (wordsF lk)) 23, .box bk6 (bys (List.replicate 16 0)) 31, .box bk53 (u64s (rF lk)) 52, .box bk77 (bys (padF (chunk lx q))) 55]) Hv101.heap [0, 1, 2, 3, 4, 5] (by kernel_rfl) (by decide) he118)
  clear hM113 he118
  refine d_pures [(1, .slice (cutAt at1 ct (min (List.length (List.drop (16 * q) lx)) 16) 1) (List.length (List.drop (16 * (q + 1)) lx)) (ct - (min (List.length (List.drop (16 * q) lx)) 16))), (4, pt bk6), (5, pt bk20), (6, .func (.func 25) #[] #[pt bk20]), (7, pt bk53), (8, pt bk62), (9, pt bk77), (10, .int .i64 ((min (List.length (List.drop (16 * q) lx)) 16 : Nat) : Int)), (11, .slice aoq112 (List.length (wordsF (padF (chunk lx q)))) coq112)] [.slice aoq112 (List.length (wordsF (padF (chunk lx q)))) coq112] 3 En116 (by kernel_rfl) (by kernel_rfl) rfl ?_
  intro ac119 En120
  refine from_end (by kernel_rfl) ?_
  refine then_normal ?_
  refine region_cut (F := fun ac wo => ∃ (ltq5495 : _), Env ac 101 [(1, .slice (cutAt at1 ct (min (List.length (List.drop (16 * q) lx)) 16) 1) (List.length (List.drop (16 * (q + 1)) lx)) (ct - (min (List.length (List.drop (16 * q) lx)) 16))), (4, pt bk6), (5, pt bk20), (6, .func (.func 25) #[] #[pt bk20]), (7, pt bk53), (8, pt bk62), (9, pt bk77), (10, .int .i64 ((min (List.length (List.drop (16 * q) lx)) 16 : Nat) : Int))] ∧ Ev w [] wo [.box bk62 (u64s ltq5495) 54, .box bk20 [.slice aoq13 (List.length (wordsF lk)) coq13] 43, .vec aoq13 coq13 1 (u32s (wordsF lk)) 23, .box bk6 (bys (List.replicate 16 0)) 31, .box bk53 (u64s (rF lk)) 52, .box bk77 (bys (padF (chunk lx q))) 55] ∧ (List.length ltq5495 = 3) ∧ (dv B64 ltq5495 < 2722258935367507707706996859454145691648) ∧ (dv B64 ltq5495 % 1361129467683753853853498429727072845819 = macQ (dv B64 (rF lk)) lx (q + 1))) ?_ ?_
  ·
   refine h_start (fun wv => Ev w [] wv [.vec aoq112 coq112 1 (u32s (wordsF (padF (chunk lx q)))) 23, .box bk62 (u64s p) 54, .box bk53 (u64s (rF lk)) 52]) [28] (by kernel_rfl) 29 (by kernel_rfl) ?_
   have wo121 := Hv117.trans (Ev.drew Hv117.heap)
   refine h_read (d := some 38) (s := nv (Instr.loadAt 54 (pt bk62))) En120 (v := .agg (List.toArray (u64s p))) 0 (by kernel_rfl) (fun w hS => run_nv (run_loadAgg2 (m := 3) (cs := u64s p) (u64s_lenh hp) (by kernel_rfl) (by kernel_rfl) (hS.heap.cells (k := 1) (off := 0) (m := 3) rfl (load_whole (u64s_lenh hp))))) (by kernel_rfl) rfl (wo121.pick [0, 1, 5] (by kernel_rfl) (by decide)) ?_
   intro ac5506 En5507
   refine h_pureR (d := some 39) En5507 (v := .slice aoq112 (List.length (wordsF (padF (chunk lx q)))) coq112) 1 (by kernel_rfl) (by kernel_rfl) rfl (fun _ => wo121.pick [0, 1, 5] (by kernel_rfl) (by decide)) ?_
   intro ac5508 En5509
   have hb5512 : 0 < List.length (wordsF (padF (chunk lx q))) := (by omega)
   obtain ⟨adr5510, had5511⟩ := some_of (u32s_vnz wo121.heap (k := 0) rfl) hb5512
   refine h_free (d := some 40) (s := nv (Instr.indexAt 43 (.slice aoq112 (List.length (wordsF (padF (chunk lx q)))) coq112) (.int .i64 0))) En5509 (v := .pointer (some (Addr.add adr5510 0))) 2 (by kernel_rfl) (fun _ => run_nv (Go.Dbr.run_indexsl (e := 23) (sz := 1) (j := 0) (jo := 0) had5511 (by kernel_rfl) (by kernel_rfl) (by omega) hb5512 (Nat.mul_one _) _)) (by kernel_rfl) rfl (fun _ => wo121.pick [0, 1, 5] (by kernel_rfl) (by decide)) ?_
   intro ac5513 En5514
   have hb5515 : 0 < List.length (wordsF (padF (chunk lx q))) := by omega
   refine h_read (d := some 41) (s := nv (Instr.loadAt 23 (.pointer (some (Addr.add adr5510 0))))) En5514 (v := .int .u32 ((UInt32.toNat (List.getD (wordsF (padF (chunk lx q))) 0 0) : Nat) : Int)) 3 (by kernel_rfl) (fun w hS => run_nv (run_loadel (ad := adr5510) (o := 0) rfl (hS.heap.reads (k := 0) rfl) had5511 (u32s_getD hb5515) (by kernel_rfl))) (by kernel_rfl) rfl (wo121.pick [0, 1, 5] (by kernel_rfl) (by decide)) ?_
   intro ac5516 En5517
   refine h_pureR (d := some 42) En5517 (v := .int .u64 (IntKind.wrap .u64 ((UInt32.toNat (List.getD (wordsF (padF (chunk lx q))) 0 0) : Nat) : Int))) 4 (by kernel_rfl) (by kernel_rfl) rfl (fun _ => wo121.pick [0, 1, 5] (by kernel_rfl) (by decide)) ?_
   intro ac5518 En5519
   rw [Go.Dbr.u32_to_u64 (a := ((UInt32.toNat (List.getD (wordsF (padF (chunk lx q))) 0 0) : Nat) : Int)) (x := List.getD (wordsF (padF (chunk lx q))) 0 0) rfl] at En5519
   refine h_pureR (d := some 43) En5519 (v := .slice aoq112 (List.length (wordsF (padF (chunk lx q)))) coq112) 5 (by kernel_rfl) (by kernel_rfl) rfl (fun _ => wo121.pick [0, 1, 5] (by kernel_rfl) (by decide)) ?_
   intro ac5520 En5521
   have hb5524 : 1 < List.length (wordsF (padF (chunk lx q))) := (by omega)
   obtain ⟨adr5522, had5523⟩ := some_of (u32s_vnz wo121.heap (k := 0) rfl) hb5524
   refine h_free (d := some 44) (s := nv (Instr.indexAt 43 (.slice aoq112 (List.length (wordsF (padF (chunk lx q)))) coq112) (.int .i64 1))) En5521 (v := .pointer (some (Addr.add adr5522 1))) 6 (by kernel_rfl) (fun _ => run_nv (Go.Dbr.run_indexsl (e := 23) (sz := 1) (j := 1) (jo := 1) had5523 (by kernel_rfl) (by kernel_rfl) (by omega) hb5524 (Nat.mul_one _) _)) (by kernel_rfl) rfl (fun _ => wo121.pick [0, 1, 5] (by kernel_rfl) (by decide)) ?_
   intro ac5525 En5526
   have hb5527 : 1 < List.length (wordsF (padF (chunk lx q))) := by omega
   refine h_read (d := some 45) (s := nv (Instr.loadAt 23 (.pointer (some (Addr.add adr5522 1))))) En5526 (v := .int .u32 ((UInt32.toNat (List.getD (wordsF (padF (chunk lx q))) 1 0) : Nat) : Int)) 7 (by kernel_rfl) (fun w hS => run_nv (run_loadel (ad := adr5522) (o := 1) rfl (hS.heap.reads (k := 0) rfl) had5523 (u32s_getD hb5527) (by kernel_rfl))) (by kernel_rfl) rfl (wo121.pick [0, 1, 5] (by kernel_rfl) (by decide)) ?_
   intro ac5528 En5529
   refine h_pureR (d := some 46) En5529 (v := .int .u64 (IntKind.wrap .u64 ((UInt32.toNat (List.getD (wordsF (padF (chunk lx q))) 1 0) : Nat) : Int))) 8 (by kernel_rfl) (by kernel_rfl) rfl (fun _ => wo121.pick [0, 1, 5] (by kernel_rfl) (by decide)) ?_
   intro ac5530 En5531
   rw [Go.Dbr.u32_to_u64 (a := ((UInt32.toNat (List.getD (wordsF (padF (chunk lx q))) 1 0) : Nat) : Int)) (x := List.getD (wordsF (padF (chunk lx q))) 1 0) rfl] at En5531
   refine h_pureR (d := some 47) En5531 (v := .int .u64 (IntKind.wrap .u64 (((UInt64.toNat (UInt32.toUInt64 (List.getD (wordsF (padF (chunk lx q))) 1 0)) : Nat) : Int) * 2 ^ 32))) 9 (by kernel_rfl) (by kernel_rfl) rfl (fun _ => wo121.pick [0, 1, 5] (by kernel_rfl) (by decide)) ?_
   intro ac5532 En5533
   rw [Go.Dbr.u64_shl (a := ((UInt64.toNat (UInt32.toUInt64 (List.getD (wordsF (padF (chunk lx q))) 1 0)) : Nat) : Int)) (x := UInt32.toUInt64 (List.getD (wordsF (padF (chunk lx q))) 1 0)) (n := 32) rfl (by decide)] at En5533
   refine h_pureR (d := some 48) En5533 (v := .int .u64 (IntKind.wrap .u64 ((BitVec.ofInt (IntKind.bits .u64) ((UInt64.toNat (UInt32.toUInt64 (List.getD (wordsF (padF (chunk lx q))) 0 0)) : Nat) : Int) ||| BitVec.ofInt (IntKind.bits .u64) ((UInt64.toNat ((UInt32.toUInt64 (List.getD (wordsF (padF (chunk lx q))) 1 0)) <<< UInt64.ofNat 32) : Nat) : Int)).toNat : Int))) 10 (by kernel_rfl) (by kernel_rfl) rfl (fun _ => wo121.pick [0, 1, 5] (by kernel_rfl) (by decide)) ?_
   intro ac5534 En5535
   rw [Go.Dbr.u64_or (a := ((UInt64.toNat (UInt32.toUInt64 (List.getD (wordsF (padF (chunk lx q))) 0 0)) : Nat) : Int)) (b := ((UInt64.toNat ((UInt32.toUInt64 (List.getD (wordsF (padF (chunk lx q))) 1 0)) <<< UInt64.ofNat 32) : Nat) : Int)) (x := UInt32.toUInt64 (List.getD (wordsF (padF (chunk lx q))) 0 0)) (y := (UInt32.toUInt64 (List.getD (wordsF (padF (chunk lx q))) 1 0)) <<< UInt64.ofNat 32) rfl rfl] at En5535
   refine h_pureR (d := some 49) En5535 (v := .slice aoq112 (List.length (wordsF (padF (chunk lx q)))) coq112) 11 (by kernel_rfl) (by kernel_rfl) rfl (fun _ => wo121.pick [0, 1, 5] (by kernel_rfl) (by decide)) ?_
   intro ac5536 En5537
   have hb5540 : 2 < List.length (wordsF (padF (chunk lx q))) := (by omega)
   obtain ⟨adr5538, had5539⟩ := some_of (u32s_vnz wo121.heap (k := 0) rfl) hb5540
   refine h_free (d := some 50) (s := nv (Instr.indexAt 43 (.slice aoq112 (List.length (wordsF (padF (chunk lx q)))) coq112) (.int .i64 2))) En5537 (v := .pointer (some (Addr.add adr5538 2))) 12 (by kernel_rfl) (fun _ => run_nv (Go.Dbr.run_indexsl (e := 23) (sz := 1) (j := 2) (jo := 2) had5539 (by kernel_rfl) (by kernel_rfl) (by omega) hb5540 (Nat.mul_one _) _)) (by kernel_rfl) rfl (fun _ => wo121.pick [0, 1, 5] (by kernel_rfl) (by decide)) ?_
   intro ac5541 En5542
   have hb5543 : 2 < List.length (wordsF (padF (chunk lx q))) := by omega
   refine h_read (d := some 51) (s := nv (Instr.loadAt 23 (.pointer (some (Addr.add adr5538 2))))) En5542 (v := .int .u32 ((UInt32.toNat (List.getD (wordsF (padF (chunk lx q))) 2 0) : Nat) : Int)) 13 (by kernel_rfl) (fun w hS => run_nv (run_loadel (ad := adr5538) (o := 2) rfl (hS.heap.reads (k := 0) rfl) had5539 (u32s_getD hb5543) (by kernel_rfl))) (by kernel_rfl) rfl (wo121.pick [0, 1, 5] (by kernel_rfl) (by decide)) ?_
   intro ac5544 En5545
   refine h_pureR (d := some 52) En5545 (v := .int .u64 (IntKind.wrap .u64 ((UInt32.toNat (List.getD (wordsF (padF (chunk lx q))) 2 0) : Nat) : Int))) 14 (by kernel_rfl) (by kernel_rfl) rfl (fun _ => wo121.pick [0, 1, 5] (by kernel_rfl) (by decide)) ?_
   intro ac5546 En5547
   rw [Go.Dbr.u32_to_u64 (a := ((UInt32.toNat (List.getD (wordsF (padF (chunk lx q))) 2 0) : Nat) : Int)) (x := List.getD (wordsF (padF (chunk lx q))) 2 0) rfl] at En5547
   refine h_pureR (d := some 53) En5547 (v := .slice aoq112 (List.length (wordsF (padF (chunk lx q)))) coq112) 15 (by kernel_rfl) (by kernel_rfl) rfl (fun _ => wo121.pick [0, 1, 5] (by kernel_rfl) (by decide)) ?_
   intro ac5548 En5549
   have hb5552 : 3 < List.length (wordsF (padF (chunk lx q))) := (by omega)
   obtain ⟨adr5550, had5551⟩ := some_of (u32s_vnz wo121.heap (k := 0) rfl) hb5552
   refine h_free (d := some 54) (s := nv (Instr.indexAt 43 (.slice aoq112 (List.length (wordsF (padF (chunk lx q)))) coq112) (.int .i64 3))) En5549 (v := .pointer (some (Addr.add adr5550 3))) 16 (by kernel_rfl) (fun _ => run_nv (Go.Dbr.run_indexsl (e := 23) (sz := 1) (j := 3) (jo := 3) had5551 (by kernel_rfl) (by kernel_rfl) (by omega) hb5552 (Nat.mul_one _) _)) (by kernel_rfl) rfl (fun _ => wo121.pick [0, 1, 5] (by kernel_rfl) (by decide)) ?_
   intro ac5553 En5554
   have hb5555 : 3 < List.length (wordsF (padF (chunk lx q))) := by omega
   refine h_read (d := some 55) (s := nv (Instr.loadAt 23 (.pointer (some (Addr.add adr5550 3))))) En5554 (v := .int .u32 ((UInt32.toNat (List.getD (wordsF (padF (chunk lx q))) 3 0) : Nat) : Int)) 17 (by kernel_rfl) (fun w hS => run_nv (run_loadel (ad := adr5550) (o := 3) rfl (hS.heap.reads (k := 0) rfl) had5551 (u32s_getD hb5555) (by kernel_rfl))) (by kernel_rfl) rfl (wo121.pick [0, 1, 5] (by kernel_rfl) (by decide)) ?_
   intro ac5556 En5557
   refine h_pureR (d := some 56) En5557 (v := .int .u64 (IntKind.wrap .u64 ((UInt32.toNat (List.getD (wordsF (padF (chunk lx q))) 3 0) : Nat) : Int))) 18 (by kernel_rfl) (by kernel_rfl) rfl (fun _ => wo121.pick [0, 1, 5] (by kernel_rfl) (by decide)) ?_
   intro ac5558 En5559
   rw [Go.Dbr.u32_to_u64 (a := ((UInt32.toNat (List.getD (wordsF (padF (chunk lx q))) 3 0) : Nat) : Int)) (x := List.getD (wordsF (padF (chunk lx q))) 3 0) rfl] at En5559
   refine h_pureR (d := some 57) En5559 (v := .int .u64 (IntKind.wrap .u64 (((UInt64.toNat (UInt32.toUInt64 (List.getD (wordsF (padF (chunk lx q))) 3 0)) : Nat) : Int) * 2 ^ 32))) 19 (by kernel_rfl) (by kernel_rfl) rfl (fun _ => wo121.pick [0, 1, 5] (by kernel_rfl) (by decide)) ?_
   intro ac5560 En5561
   rw [Go.Dbr.u64_shl (a := ((UInt64.toNat (UInt32.toUInt64 (List.getD (wordsF (padF (chunk lx q))) 3 0)) : Nat) : Int)) (x := UInt32.toUInt64 (List.getD (wordsF (padF (chunk lx q))) 3 0)) (n := 32) rfl (by decide)] at En5561
   refine h_pureR (d := some 58) En5561 (v := .int .u64 (IntKind.wrap .u64 ((BitVec.ofInt (IntKind.bits .u64) ((UInt64.toNat (UInt32.toUInt64 (List.getD (wordsF (padF (chunk lx q))) 2 0)) : Nat) : Int) ||| BitVec.ofInt (IntKind.bits .u64) ((UInt64.toNat ((UInt32.toUInt64 (List.getD (wordsF (padF (chunk lx q))) 3 0)) <<< UInt64.ofNat 32) : Nat) : Int)).toNat : Int))) 20 (by kernel_rfl) (by kernel_rfl) rfl (fun _ => wo121.pick [0, 1, 5] (by kernel_rfl) (by decide)) ?_
   intro ac5562 En5563
   rw [Go.Dbr.u64_or (a := ((UInt64.toNat (UInt32.toUInt64 (List.getD (wordsF (padF (chunk lx q))) 2 0)) : Nat) : Int)) (b := ((UInt64.toNat ((UInt32.toUInt64 (List.getD (wordsF (padF (chunk lx q))) 3 0)) <<< UInt64.ofNat 32) : Nat) : Int)) (x := UInt32.toUInt64 (List.getD (wordsF (padF (chunk lx q))) 2 0)) (y := (UInt32.toUInt64 (List.getD (wordsF (padF (chunk lx q))) 3 0)) <<< UInt64.ofNat 32) rfl rfl] at En5563
   refine h_pureR (d := some 59) En5563 (v := .slice aoq112 (List.length (wordsF (padF (chunk lx q)))) coq112) 21 (by kernel_rfl) (by kernel_rfl) rfl (fun _ => wo121.pick [0, 1, 5] (by kernel_rfl) (by decide)) ?_
   intro ac5564 En5565
   have hb5568 : 4 < List.length (wordsF (padF (chunk lx q))) := (by omega)
   obtain ⟨adr5566, had5567⟩ := some_of (u32s_vnz wo121.heap (k := 0) rfl) hb5568
   refine h_free (d := some 60) (s := nv (Instr.indexAt 43 (.slice aoq112 (List.length (wordsF (padF (chunk lx q)))) coq112) (.int .i64 4))) En5565 (v := .pointer (some (Addr.add adr5566 4))) 22 (by kernel_rfl) (fun _ => run_nv (Go.Dbr.run_indexsl (e := 23) (sz := 1) (j := 4) (jo := 4) had5567 (by kernel_rfl) (by kernel_rfl) (by omega) hb5568 (Nat.mul_one _) _)) (by kernel_rfl) rfl (fun _ => wo121.pick [0, 1, 5] (by kernel_rfl) (by decide)) ?_
   intro ac5569 En5570
   have hb5571 : 4 < List.length (wordsF (padF (chunk lx q))) := by omega
   refine h_read (d := some 61) (s := nv (Instr.loadAt 23 (.pointer (some (Addr.add adr5566 4))))) En5570 (v := .int .u32 ((UInt32.toNat (List.getD (wordsF (padF (chunk lx q))) 4 0) : Nat) : Int)) 23 (by kernel_rfl) (fun w hS => run_nv (run_loadel (ad := adr5566) (o := 4) rfl (hS.heap.reads (k := 0) rfl) had5567 (u32s_getD hb5571) (by kernel_rfl))) (by kernel_rfl) rfl (wo121.pick [0, 1, 5] (by kernel_rfl) (by decide)) ?_
   intro ac5572 En5573
   refine h_pureR (d := some 62) En5573 (v := .int .u64 (IntKind.wrap .u64 ((UInt32.toNat (List.getD (wordsF (padF (chunk lx q))) 4 0) : Nat) : Int))) 24 (by kernel_rfl) (by kernel_rfl) rfl (fun _ => wo121.pick [0, 1, 5] (by kernel_rfl) (by decide)) ?_
   intro ac5574 En5575
   rw [Go.Dbr.u32_to_u64 (a := ((UInt32.toNat (List.getD (wordsF (padF (chunk lx q))) 4 0) : Nat) : Int)) (x := List.getD (wordsF (padF (chunk lx q))) 4 0) rfl] at En5575
   refine h_read (d := some 64) (s := nv (Instr.loadAt 52 (pt bk53))) En5575 (v := .agg (List.toArray (u64s (rF lk)))) 26 (by kernel_rfl) (fun w hS => run_nv (run_loadAgg2 (m := 2) (cs := u64s (rF lk)) (u64s_lenh (show List.length (rF lk) = 2 from rfl)) (by kernel_rfl) (by kernel_rfl) (hS.heap.cells (k := 2) (off := 0) (m := 2) rfl (load_whole (u64s_lenh (show List.length (rF lk) = 2 from rfl)))))) (by kernel_rfl) rfl (wo121.pick [0, 1, 5] (by kernel_rfl) (by decide)) ?_
   intro ac5576 En5577
   refine h_at 25 (by kernel_rfl) rfl ?_
   have hM5578 : Heap wo115.drew [] := wo121.heap.pick [] (by kernel_rfl) (by decide)
   refine op_call (d := some 63) (f := 26) (args := #[.agg (List.toArray (u64s p)), .int .u64 ((UInt64.toNat ((UInt32.toUInt64 (List.getD (wordsF (padF (chunk lx q))) 0 0)) ||| ((UInt32.toUInt64 (List.getD (wordsF (padF (chunk lx q))) 1 0)) <<< UInt64.ofNat 32)) : Nat) : Int), .int .u64 ((UInt64.toNat ((UInt32.toUInt64 (List.getD (wordsF (padF (chunk lx q))) 2 0)) ||| ((UInt32.toUInt64 (List.getD (wordsF (padF (chunk lx q))) 3 0)) <<< UInt64.ofNat 32)) : Nat) : Int), .int .u64 ((UInt64.toNat (UInt32.toUInt64 (List.getD (wordsF (padF (chunk lx q))) 4 0)) : Nat) : Int)]) En5577 (by kernel_rfl) ((plus_go _ p hp ((UInt32.toUInt64 (List.getD (wordsF (padF (chunk lx q))) 0 0)) ||| ((UInt32.toUInt64 (List.getD (wordsF (padF (chunk lx q))) 1 0)) <<< UInt64.ofNat 32)) ((UInt32.toUInt64 (List.getD (wordsF (padF (chunk lx q))) 2 0)) ||| ((UInt32.toUInt64 (List.getD (wordsF (padF (chunk lx q))) 3 0)) <<< UInt64.ofNat 32)) (UInt32.toUInt64 (List.getD (wordsF (padF (chunk lx q))) 4 0))).mono ?_)
   rintro _ wo5580 ⟨rfl, he5583⟩
   refine ⟨_, rfl, ?_⟩
   intro ac5579 En5581
   have Hv5582 : Ev w [] wo5580 [.vec aoq112 coq112 1 (u32s (wordsF (padF (chunk lx q)))) 23, .box bk62 (u64s p) 54, .box bk20 [.slice aoq13 (List.length (wordsF lk)) coq13] 43, .vec aoq13 coq13 1 (u32s (wordsF lk)) 23, .box bk6 (bys (List.replicate 16 0)) 31, .box bk53 (u64s (rF lk)) 52, .box bk77 (bys (padF (chunk lx q))) 55] := wo121.trans (Ev.call (R := [.vec aoq112 coq112 1 (u32s (wordsF (padF (chunk lx q)))) 23, .box bk62 (u64s p) 54, .box bk20 [.slice aoq13 (List.length (wordsF lk)) coq13] 43, .vec aoq13 coq13 1 (u32s (wordsF lk)) 23, .box bk6 (bys (List.replicate 16 0)) 31, .box bk53 (u64s (rF lk)) 52, .box bk77 (bys (padF (chunk lx q))) 55]) wo121.heap [0, 1, 2, 3, 4, 5, 6] (by kernel_rfl) (by decide) he5583)
   clear hM5578 he5583
   refine ⟨fun _ => Hv5582.pick [0, 1, 5] (by kernel_rfl) (by decide), ?_⟩
   refine h_at 27 (by kernel_rfl) rfl ?_
   have hbp := block_plus (p := p) (c := chunk lx q) hp (chunk_le lx q) hpb
   have hM5585 : Heap wo5580 [] := Hv5582.heap.pick [] (by kernel_rfl) (by decide)
   refine op_call (d := some 65) (f := 27) (args := #[.agg (List.toArray (u64s (plusF p ((UInt32.toUInt64 (List.getD (wordsF (padF (chunk lx q))) 0 0)) ||| ((UInt32.toUInt64 (List.getD (wordsF (padF (chunk lx q))) 1 0)) <<< UInt64.ofNat 32)) ((UInt32.toUInt64 (List.getD (wordsF (padF (chunk lx q))) 2 0)) ||| ((UInt32.toUInt64 (List.getD (wordsF (padF (chunk lx q))) 3 0)) <<< UInt64.ofNat 32)) (UInt32.toUInt64 (List.getD (wordsF (padF (chunk lx q))) 4 0))))), .agg (List.toArray (u64s (rF lk)))]) En5581 (by kernel_rfl) ((times_go _ (plusF p ((UInt32.toUInt64 (List.getD (wordsF (padF (chunk lx q))) 0 0)) ||| ((UInt32.toUInt64 (List.getD (wordsF (padF (chunk lx q))) 1 0)) <<< UInt64.ofNat 32)) ((UInt32.toUInt64 (List.getD (wordsF (padF (chunk lx q))) 2 0)) ||| ((UInt32.toUInt64 (List.getD (wordsF (padF (chunk lx q))) 3 0)) <<< UInt64.ofNat 32)) (UInt32.toUInt64 (List.getD (wordsF (padF (chunk lx q))) 4 0))) (plusF_len _ _ _ _) (rF lk) (show List.length (rF lk) = 2 from rfl) (Nat.lt_of_le_of_lt (Nat.le_of_eq hbp.1) (by omega)) (rF_lt lk)).mono ?_)
   rintro _ wo5587 ⟨ltq5584, rfl, he5590, hlq5584, hbq5584, hvq5584⟩
   refine ⟨_, rfl, ?_⟩
   intro ac5586 En5588
   have Hv5589 : Ev w [] wo5587 [.vec aoq112 coq112 1 (u32s (wordsF (padF (chunk lx q)))) 23, .box bk62 (u64s p) 54, .box bk20 [.slice aoq13 (List.length (wordsF lk)) coq13] 43, .vec aoq13 coq13 1 (u32s (wordsF lk)) 23, .box bk6 (bys (List.replicate 16 0)) 31, .box bk53 (u64s (rF lk)) 52, .box bk77 (bys (padF (chunk lx q))) 55] := Hv5582.trans (Ev.call (R := [.vec aoq112 coq112 1 (u32s (wordsF (padF (chunk lx q)))) 23, .box bk62 (u64s p) 54, .box bk20 [.slice aoq13 (List.length (wordsF lk)) coq13] 43, .vec aoq13 coq13 1 (u32s (wordsF lk)) 23, .box bk6 (bys (List.replicate 16 0)) 31, .box bk53 (u64s (rF lk)) 52, .box bk77 (bys (padF (chunk lx q))) 55]) Hv5582.heap [0, 1, 2, 3, 4, 5, 6] (by kernel_rfl) (by decide) he5590)
   clear hM5585 he5590
   replace hvq5584 : dv B64 ltq5584 % 1361129467683753853853498429727072845819 = macQ (dv B64 (rF lk)) lx (q + 1) := mac_next hpm hbp.1 hvq5584
   refine ⟨fun _ => Hv5589.pick [0, 1, 5] (by kernel_rfl) (by decide), ?_⟩
   refine h_at 28 (by kernel_rfl) rfl ?_
   refine op_storeaggbox (d := none) (t := 54) (b := bk62) (off := 0) (k := 1) (m := 3) (xs := u64s ltq5584) (v := .agg (List.toArray (u64s ltq5584))) (cs' := u64s ltq5584) En5588 (by kernel_rfl) Hv5589 rfl rfl (u64s_lenh hlq5584) (by rw [(u64s_lenh hp)]; decide) (by kernel_rfl) (u64s_one _) (store_whole (u64s_lenh hp)) (L' := [.vec aoq112 coq112 1 (u32s (wordsF (padF (chunk lx q)))) 23, .box bk62 (u64s ltq5584) 54, .box bk20 [.slice aoq13 (List.length (wordsF lk)) coq13] 43, .vec aoq13 coq13 1 (u32s (wordsF lk)) 23, .box bk6 (bys (List.replicate 16 0)) 31, .box bk53 (u64s (rF lk)) 52, .box bk77 (bys (padF (chunk lx q))) 55]) rfl ?_
   intro ac5591 wo5592  En5593 Hv5594
   refine ⟨not_yet (by kernel_rfl), ?_⟩
   exact h_end (by kernel_rfl) ⟨ltq5584, En5593.sub (by kernel_rfl), Hv5594.pick [1, 2, 3, 4, 5, 6] (by kernel_rfl) (by decide), hlq5584, hbq5584, hvq5584⟩
  rintro ac5595 wo5596 ⟨ltq5495, En5597, Hv5598, hlq5495, hbq5495, hvq5495⟩
  refine block_normal ?_
  refine then_normal ?_
  refine ⟨_, ⟨q + 1, (cutAt at1 ct (min (List.length (List.drop (16 * q) lx)) 16) 1), (ct - (min (List.length (List.drop (16 * q) lx)) 16)), ltq5495, rfl, En5597.sub (by kernel_rfl), Hv5598.pick [0, 1, 2, 3, 4] (by kernel_rfl) (by decide), hTn, by omega, hlq5495, hbq5495, hvq5495⟩, ?_⟩
  omega
 ·
  replace hc76 : ¬ (((List.length (List.drop (16 * q) lx) : Nat) : Int) > (0 : Int)) := of_decide_eq_false hc76
  refine wp_exit ?_
  refine then_exit ?_
  refine then_exit ?_
  refine block_exit ?_
  refine then_normal ?_
  refine wp_seq ?_
  refine wp_seq ?_
  refine region_from ?_
  refine d_pures [(1, .slice at1 (List.length (List.drop (16 * q) lx)) ct), (4, pt bk6), (5, pt bk20), (6, .func (.func 25) #[] #[pt bk20]), (7, pt bk53), (8, pt bk62), (66, .int .i64 0)] [.int .i64 0] 1 En75 (by kernel_rfl) (by kernel_rfl) rfl ?_
  intro ac5599 En5600
  refine from_end (by kernel_rfl) ?_
  refine then_normal ?_
  refine wp_block ?_
  have hDl : List.length (List.drop (16 * q) lx) = List.length lx - 16 * q := List.length_drop
  have hqe : q = (List.length lx + 15) / 16 := by omega
  refine loop_enter ?_
  refine loop_once ?_
  refine wp_seq ?_
  refine region_from ?_
  refine d_pures [(1, .slice at1 (List.length (List.drop (16 * q) lx)) ct), (4, pt bk6), (5, pt bk20), (6, .func (.func 25) #[] #[pt bk20]), (7, pt bk53), (8, pt bk62), (66, .int .i64 0), (67, .bool true)] [.bool true] 1 En5600 (by kernel_rfl) (by kernel_rfl) rfl ?_
  intro ac5601 En5602
  refine from_end (by kernel_rfl) ?_
  refine then_normal ?_
  refine wp_seq ?_
  refine cond_true En5602 (t := true) (by kernel_rfl) rfl ?_
  refine wp_skip ?_
  refine then_normal ?_
  refine wp_seq ?_
  refine wp_block ?_
  refine wp_seq ?_
  refine region_from ?_
  refine from_op (by kernel_rfl) ?_
  refine op_loadaggbox (d := some 68) (t := 54) (b := bk62) (off := 0) (k := 0) (m := 3) (xs := u64s p) En5602 (by kernel_rfl) Hv72 rfl (load_whole (u64s_lenh hp)) (u64s_lenh hp) (by kernel_rfl) (by kernel_rfl) ?_
  intro ac5603 En5604
  refine from_op (by kernel_rfl) ?_
  have hM5605 : Heap wo70 [] := Hv72.heap.pick [] (by kernel_rfl) (by decide)
  refine op_call (d := some 69) (f := 26) (args := #[.agg (List.toArray (u64s p)), .int .u64 5, .int .u64 0, .int .u64 0]) En5604 (by kernel_rfl) ((plus_go _ p hp (5 : UInt64) (0 : UInt64) (0 : UInt64)).mono ?_)
  rintro _ wo5607 ⟨rfl, he5610⟩
  refine ⟨_, rfl, ?_⟩
  intro ac5606 En5608
  have Hv5609 : Ev w [] wo5607 [.box bk62 (u64s p) 54, .box bk20 [.slice aoq13 (List.length (wordsF lk)) coq13] 43, .vec aoq13 coq13 1 (u32s (wordsF lk)) 23, .box bk6 (bys (List.replicate 16 0)) 31, .box bk53 (u64s (rF lk)) 52] := Hv72.trans (Ev.call (R := [.box bk62 (u64s p) 54, .box bk20 [.slice aoq13 (List.length (wordsF lk)) coq13] 43, .vec aoq13 coq13 1 (u32s (wordsF lk)) 23, .box bk6 (bys (List.replicate 16 0)) 31, .box bk53 (u64s (rF lk)) 52]) Hv72.heap [0, 1, 2, 3, 4] (by kernel_rfl) (by decide) he5610)
  clear hM5605 he5610
  refine from_op (by kernel_rfl) ?_
  refine op_alloc (d := some 12) (T := 54) (x := .tuple #[]) (z := .agg (List.toArray (u64s (List.replicate 3 0)))) (cs := u64s (List.replicate 3 0)) En5608 (by kernel_rfl) (by kernel_rfl) (by kernel_rfl) Hv5609 ?_
  intro ac5612 wo5613 bk5611 En5614 Hv5615
  refine from_op (by kernel_rfl) ?_
  refine op_storeaggbox (d := none) (t := 54) (b := bk5611) (off := 0) (k := 5) (m := 3) (xs := u64s (plusF p (5 : UInt64) (0 : UInt64) (0 : UInt64))) (v := .agg (List.toArray (u64s (plusF p (5 : UInt64) (0 : UInt64) (0 : UInt64))))) (cs' := u64s (plusF p (5 : UInt64) (0 : UInt64) (0 : UInt64))) En5614 (by kernel_rfl) Hv5615 rfl rfl (u64s_lenh (plusF_len _ _ _ _)) (by rw [(u64s_lenh (List.length_replicate))]; decide) (by kernel_rfl) (u64s_one _) (store_whole (u64s_lenh (List.length_replicate))) (L' := [.box bk62 (u64s p) 54, .box bk20 [.slice aoq13 (List.length (wordsF lk)) coq13] 43, .vec aoq13 coq13 1 (u32s (wordsF lk)) 23, .box bk6 (bys (List.replicate 16 0)) 31, .box bk53 (u64s (rF lk)) 52, .box bk5611 (u64s (plusF p (5 : UInt64) (0 : UInt64) (0 : UInt64))) 54]) rfl ?_
  intro ac5616 wo5617  En5618 Hv5619
  refine from_end (by kernel_rfl) ?_
  refine then_normal ?_
  refine wp_seq ?_
  refine region_from ?_
  refine from_op (by kernel_rfl) ?_
  refine op_val (d := some 70) (x := Instr.indexAt 54 (pt bk5611) (.int .i64 2)) (v := .pointer (some ⟨bk5611, 2, none⟩)) En5618 (by kernel_rfl) (Go.Dbr.run_indexarr (e := 49) (sz := 1) (m := 3) (j := 2) (o := 2) (by kernel_rfl) (by kernel_rfl) (by omega) (by omega) (by omega) _) ?_
  intro ac5620 En5621
  refine from_op (by kernel_rfl) ?_
  have hb5622 : 2 < List.length (plusF p (5 : UInt64) (0 : UInt64) (0 : UInt64)) := by rw [(plusF_len _ _ _ _)]; omega
  refine op_loadbox (d := some 71) (t := 49) (b := bk5611) (off := 2) (k := 5) (v := .int .u64 ((UInt64.toNat (List.getD (plusF p (5 : UInt64) (0 : UInt64) (0 : UInt64)) 2 0) : Nat) : Int)) En5621 (by kernel_rfl) Hv5619 rfl (u64s_getD hb5622) (by kernel_rfl) ?_
  intro ac5623 En5624
  refine d_pures [(1, .slice at1 (List.length (List.drop (16 * q) lx)) ct), (4, pt bk6), (5, pt bk20), (6, .func (.func 25) #[] #[pt bk20]), (7, pt bk53), (8, pt bk62), (12, pt bk5611), (66, .int .i64 0), (72, .bool (decide (((UInt64.toNat (List.getD (plusF p (5 : UInt64) (0 : UInt64) (0 : UInt64)) 2 0) : Nat) : Int) ≥ (4 : Int))))] [.bool (decide (((UInt64.toNat (List.getD (plusF p (5 : UInt64) (0 : UInt64) (0 : UInt64)) 2 0) : Nat) : Int) ≥ (4 : Int)))] 3 En5624 (by kernel_rfl) (by kernel_rfl) rfl ?_
  intro ac5625 En5626
  refine from_end (by kernel_rfl) ?_
  refine then_normal ?_
  have htg0 := top_ge hp (v := p) (by omega)
  refine region_cut (F := fun ac wo => ∃ (v0 : List UInt64), Env ac 101 [(1, .slice at1 (List.length (List.drop (16 * q) lx)) ct), (4, pt bk6), (5, pt bk20), (6, .func (.func 25) #[] #[pt bk20]), (7, pt bk53), (8, pt bk62), (66, .int .i64 0)] ∧ Ev w [] wo [.box bk62 (u64s v0) 54, .box bk20 [.slice aoq13 (List.length (wordsF lk)) coq13] 43, .vec aoq13 coq13 1 (u32s (wordsF lk)) 23, .box bk6 (bys (List.replicate 16 0)) 31, .box bk53 (u64s (rF lk)) 52] ∧ (List.length v0 = 3) ∧ (dv B64 v0 < 1361129467683753853853498429727072845819 + 10) ∧ (dv B64 v0 % 1361129467683753853853498429727072845819 = macQ (dv B64 (rF lk)) lx q)) ?_ ?_
  ·
   refine cond_at En5626 (t := decide (((UInt64.toNat (List.getD (plusF p (5 : UInt64) (0 : UInt64) (0 : UInt64)) 2 0) : Nat) : Int) ≥ (4 : Int))) (by kernel_rfl) (fun hc5627 => ?_) (fun hc5627 => ?_)
   ·
    replace hc5627 : ((UInt64.toNat (List.getD (plusF p (5 : UInt64) (0 : UInt64) (0 : UInt64)) 2 0) : Nat) : Int) ≥ (4 : Int) := of_decide_eq_true hc5627
    refine wp_seq ?_
    refine region_from ?_
    refine from_op (by kernel_rfl) ?_
    refine op_val (d := some 73) (x := Instr.indexAt 54 (pt bk5611) (.int .i64 2)) (v := .pointer (some ⟨bk5611, 2, none⟩)) En5626 (by kernel_rfl) (Go.Dbr.run_indexarr (e := 49) (sz := 1) (m := 3) (j := 2) (o := 2) (by kernel_rfl) (by kernel_rfl) (by omega) (by omega) (by omega) _) ?_
    intro ac5628 En5629
    refine from_op (by kernel_rfl) ?_
    have hb5630 : 2 < List.length (plusF p (5 : UInt64) (0 : UInt64) (0 : UInt64)) := by rw [(plusF_len _ _ _ _)]; omega
    refine op_loadbox (d := some 74) (t := 49) (b := bk5611) (off := 2) (k := 5) (v := .int .u64 ((UInt64.toNat (List.getD (plusF p (5 : UInt64) (0 : UInt64) (0 : UInt64)) 2 0) : Nat) : Int)) En5629 (by kernel_rfl) Hv5619 rfl (u64s_getD hb5630) (by kernel_rfl) ?_
    intro ac5631 En5632
    refine d_pures [(1, .slice at1 (List.length (List.drop (16 * q) lx)) ct), (4, pt bk6), (5, pt bk20), (6, .func (.func 25) #[] #[pt bk20]), (7, pt bk53), (8, pt bk62), (12, pt bk5611), (66, .int .i64 0), (75, .int .u64 (IntKind.wrap .u64 (((UInt64.toNat (List.getD (plusF p (5 : UInt64) (0 : UInt64) (0 : UInt64)) 2 0) : Nat) : Int) - (4 : Int))))] [.int .u64 (IntKind.wrap .u64 (((UInt64.toNat (List.getD (plusF p (5 : UInt64) (0 : UInt64) (0 : UInt64)) 2 0) : Nat) : Int) - (4 : Int)))] 3 En5632 (by kernel_rfl) (by kernel_rfl) rfl ?_
    intro ac5633 En5634
    rw [Go.Dbr.u64_sub (a := ((UInt64.toNat (List.getD (plusF p (5 : UInt64) (0 : UInt64) (0 : UInt64)) 2 0) : Nat) : Int)) (b := (4 : Int)) (x := List.getD (plusF p (5 : UInt64) (0 : UInt64) (0 : UInt64)) 2 0) (y := (4 : UInt64)) rfl rfl] at En5634
    refine from_op (by kernel_rfl) ?_
    refine op_val (d := some 76) (x := Instr.indexAt 54 (pt bk5611) (.int .i64 2)) (v := .pointer (some ⟨bk5611, 2, none⟩)) En5634 (by kernel_rfl) (Go.Dbr.run_indexarr (e := 49) (sz := 1) (m := 3) (j := 2) (o := 2) (by kernel_rfl) (by kernel_rfl) (by omega) (by omega) (by omega) _) ?_
    intro ac5635 En5636
    refine from_op (by kernel_rfl) ?_
    have hb5637 : 2 < List.length (plusF p (5 : UInt64) (0 : UInt64) (0 : UInt64)) := by rw [(plusF_len _ _ _ _)]; omega
    refine op_storebox2 (d := none) (t := 49) (b := bk5611) (off := 2) (k := 5) (v := .int .u64 ((UInt64.toNat ((List.getD (plusF p (5 : UInt64) (0 : UInt64) (0 : UInt64)) 2 0) - (4 : UInt64)) : Nat) : Int)) En5636 (by kernel_rfl) Hv5619 rfl (u64s_getD hb5637) (by kernel_rfl) rfl (u64s_set _ _ _) (L' := [.box bk62 (u64s p) 54, .box bk20 [.slice aoq13 (List.length (wordsF lk)) coq13] 43, .vec aoq13 coq13 1 (u32s (wordsF lk)) 23, .box bk6 (bys (List.replicate 16 0)) 31, .box bk53 (u64s (rF lk)) 52, .box bk5611 (u64s (List.set (plusF p (5 : UInt64) (0 : UInt64) (0 : UInt64)) 2 ((List.getD (plusF p (5 : UInt64) (0 : UInt64) (0 : UInt64)) 2 0) - (4 : UInt64)))) 54]) rfl ?_
    intro ac5638 wo5639  En5640 Hv5641
    refine from_end (by kernel_rfl) ?_
    refine then_normal ?_
    refine region_from ?_
    refine from_op (by kernel_rfl) ?_
    refine op_loadaggbox (d := some 77) (t := 54) (b := bk5611) (off := 0) (k := 5) (m := 3) (xs := u64s (List.set (plusF p (5 : UInt64) (0 : UInt64) (0 : UInt64)) 2 ((List.getD (plusF p (5 : UInt64) (0 : UInt64) (0 : UInt64)) 2 0) - (4 : UInt64)))) En5640 (by kernel_rfl) Hv5641 rfl (load_whole (u64s_lenh (List.length_set.trans (plusF_len _ _ _ _)))) (u64s_lenh (List.length_set.trans (plusF_len _ _ _ _))) (by kernel_rfl) (by kernel_rfl) ?_
    intro ac5642 En5643
    refine from_op (by kernel_rfl) ?_
    refine op_storeaggbox (d := none) (t := 54) (b := bk62) (off := 0) (k := 0) (m := 3) (xs := u64s (List.set (plusF p (5 : UInt64) (0 : UInt64) (0 : UInt64)) 2 ((List.getD (plusF p (5 : UInt64) (0 : UInt64) (0 : UInt64)) 2 0) - (4 : UInt64)))) (v := .agg (List.toArray (u64s (List.set (plusF p (5 : UInt64) (0 : UInt64) (0 : UInt64)) 2 ((List.getD (plusF p (5 : UInt64) (0 : UInt64) (0 : UInt64)) 2 0) - (4 : UInt64)))))) (cs' := u64s (List.set (plusF p (5 : UInt64) (0 : UInt64) (0 : UInt64)) 2 ((List.getD (plusF p (5 : UInt64) (0 : UInt64) (0 : UInt64)) 2 0) - (4 : UInt64)))) En5643 (by kernel_rfl) Hv5641 rfl rfl (u64s_lenh (List.length_set.trans (plusF_len _ _ _ _))) (by rw [(u64s_lenh hp)]; decide) (by kernel_rfl) (u64s_one _) (store_whole (u64s_lenh hp)) (L' := [.box bk62 (u64s (List.set (plusF p (5 : UInt64) (0 : UInt64) (0 : UInt64)) 2 ((List.getD (plusF p (5 : UInt64) (0 : UInt64) (0 : UInt64)) 2 0) - (4 : UInt64)))) 54, .box bk20 [.slice aoq13 (List.length (wordsF lk)) coq13] 43, .vec aoq13 coq13 1 (u32s (wordsF lk)) 23, .box bk6 (bys (List.replicate 16 0)) 31, .box bk53 (u64s (rF lk)) 52, .box bk5611 (u64s (List.set (plusF p (5 : UInt64) (0 : UInt64) (0 : UInt64)) 2 ((List.getD (plusF p (5 : UInt64) (0 : UInt64) (0 : UInt64)) 2 0) - (4 : UInt64)))) 54]) rfl ?_
    intro ac5644 wo5645  En5646 Hv5647
    refine from_end (by kernel_rfl) ?_
    have hoff := top_off (plusF_len p 5 0 0) (by omega)
    exact ⟨rfl, ⟨(List.set (plusF p (5 : UInt64) (0 : UInt64) (0 : UInt64)) 2 ((List.getD (plusF p (5 : UInt64) (0 : UInt64) (0 : UInt64)) 2 0) - (4 : UInt64))), En5646.sub (by kernel_rfl), Hv5647.pick [0, 1, 2, 3, 4] (by kernel_rfl) (by decide), (List.length_set.trans (plusF_len _ _ _ _)), by omega, (by rw [← hpm]; omega)⟩⟩
   ·
    replace hc5627 : ¬ (((UInt64.toNat (List.getD (plusF p (5 : UInt64) (0 : UInt64) (0 : UInt64)) 2 0) : Nat) : Int) ≥ (4 : Int)) := of_decide_eq_false hc5627
    refine wp_skip ?_
    exact ⟨rfl, ⟨p, En5626.sub (by kernel_rfl), Hv5619.pick [0, 1, 2, 3, 4] (by kernel_rfl) (by decide), hp, by omega, hpm⟩⟩
  ·
   rintro ac5648 wo5649 ⟨v0, En5650, Hv5651, hl_v0, hb_v0, hm_v0⟩
   refine block_normal ?_
   refine then_normal ?_
   refine region_from ?_
   refine d_pures [(1, .slice at1 (List.length (List.drop (16 * q) lx)) ct), (4, pt bk6), (5, pt bk20), (6, .func (.func 25) #[] #[pt bk20]), (7, pt bk53), (8, pt bk62), (66, .int .i64 1)] [.int .i64 1, .int .i64 1] 2 En5650 (by kernel_rfl) (by kernel_rfl) rfl ?_
   intro ac5652 En5653
   refine from_end (by kernel_rfl) ?_
   refine then_normal ?_
   refine loop_once ?_
   refine wp_seq ?_
   refine region_from ?_
   refine d_pures [(1, .slice at1 (List.length (List.drop (16 * q) lx)) ct), (4, pt bk6), (5, pt bk20), (6, .func (.func 25) #[] #[pt bk20]), (7, pt bk53), (8, pt bk62), (66, .int .i64 1), (67, .bool true)] [.bool true] 1 En5653 (by kernel_rfl) (by kernel_rfl) rfl ?_
   intro ac5654 En5655
   refine from_end (by kernel_rfl) ?_
   refine then_normal ?_
   refine wp_seq ?_
   refine cond_true En5655 (t := true) (by kernel_rfl) rfl ?_
   refine wp_skip ?_
   refine then_normal ?_
   refine wp_seq ?_
   refine wp_block ?_
   refine wp_seq ?_
   refine region_from ?_
   refine from_op (by kernel_rfl) ?_
   refine op_loadaggbox (d := some 68) (t := 54) (b := bk62) (off := 0) (k := 0) (m := 3) (xs := u64s v0) En5655 (by kernel_rfl) Hv5651 rfl (load_whole (u64s_lenh hl_v0)) (u64s_lenh hl_v0) (by kernel_rfl) (by kernel_rfl) ?_
   intro ac5656 En5657
   refine from_op (by kernel_rfl) ?_
   have hM5658 : Heap wo5649 [] := Hv5651.heap.pick [] (by kernel_rfl) (by decide)
   refine op_call (d := some 69) (f := 26) (args := #[.agg (List.toArray (u64s v0)), .int .u64 5, .int .u64 0, .int .u64 0]) En5657 (by kernel_rfl) ((plus_go _ v0 hl_v0 (5 : UInt64) (0 : UInt64) (0 : UInt64)).mono ?_)
   rintro _ wo5660 ⟨rfl, he5663⟩
   refine ⟨_, rfl, ?_⟩
   intro ac5659 En5661
   have Hv5662 : Ev w [] wo5660 [.box bk62 (u64s v0) 54, .box bk20 [.slice aoq13 (List.length (wordsF lk)) coq13] 43, .vec aoq13 coq13 1 (u32s (wordsF lk)) 23, .box bk6 (bys (List.replicate 16 0)) 31, .box bk53 (u64s (rF lk)) 52] := Hv5651.trans (Ev.call (R := [.box bk62 (u64s v0) 54, .box bk20 [.slice aoq13 (List.length (wordsF lk)) coq13] 43, .vec aoq13 coq13 1 (u32s (wordsF lk)) 23, .box bk6 (bys (List.replicate 16 0)) 31, .box bk53 (u64s (rF lk)) 52]) Hv5651.heap [0, 1, 2, 3, 4] (by kernel_rfl) (by decide) he5663)
   clear hM5658 he5663
   refine from_op (by kernel_rfl) ?_
   refine op_alloc (d := some 12) (T := 54) (x := .tuple #[]) (z := .agg (List.toArray (u64s (List.replicate 3 0)))) (cs := u64s (List.replicate 3 0)) En5661 (by kernel_rfl) (by kernel_rfl) (by kernel_rfl) Hv5662 ?_
   intro ac5665 wo5666 bk5664 En5667 Hv5668
   refine from_op (by kernel_rfl) ?_
   refine op_storeaggbox (d := none) (t := 54) (b := bk5664) (off := 0) (k := 5) (m := 3) (xs := u64s (plusF v0 (5 : UInt64) (0 : UInt64) (0 : UInt64))) (v := .agg (List.toArray (u64s (plusF v0 (5 : UInt64) (0 : UInt64) (0 : UInt64))))) (cs' := u64s (plusF v0 (5 : UInt64) (0 : UInt64) (0 : UInt64))) En5667 (by kernel_rfl) Hv5668 rfl rfl (u64s_lenh (plusF_len _ _ _ _)) (by rw [(u64s_lenh (List.length_replicate))]; decide) (by kernel_rfl) (u64s_one _) (store_whole (u64s_lenh (List.length_replicate))) (L' := [.box bk62 (u64s v0) 54, .box bk20 [.slice aoq13 (List.length (wordsF lk)) coq13] 43, .vec aoq13 coq13 1 (u32s (wordsF lk)) 23, .box bk6 (bys (List.replicate 16 0)) 31, .box bk53 (u64s (rF lk)) 52, .box bk5664 (u64s (plusF v0 (5 : UInt64) (0 : UInt64) (0 : UInt64))) 54]) rfl ?_
   intro ac5669 wo5670  En5671 Hv5672
   refine from_end (by kernel_rfl) ?_
   refine then_normal ?_
   refine wp_seq ?_
   refine region_from ?_
   refine from_op (by kernel_rfl) ?_
   refine op_val (d := some 70) (x := Instr.indexAt 54 (pt bk5664) (.int .i64 2)) (v := .pointer (some ⟨bk5664, 2, none⟩)) En5671 (by kernel_rfl) (Go.Dbr.run_indexarr (e := 49) (sz := 1) (m := 3) (j := 2) (o := 2) (by kernel_rfl) (by kernel_rfl) (by omega) (by omega) (by omega) _) ?_
   intro ac5673 En5674
   refine from_op (by kernel_rfl) ?_
   have hb5675 : 2 < List.length (plusF v0 (5 : UInt64) (0 : UInt64) (0 : UInt64)) := by rw [(plusF_len _ _ _ _)]; omega
   refine op_loadbox (d := some 71) (t := 49) (b := bk5664) (off := 2) (k := 5) (v := .int .u64 ((UInt64.toNat (List.getD (plusF v0 (5 : UInt64) (0 : UInt64) (0 : UInt64)) 2 0) : Nat) : Int)) En5674 (by kernel_rfl) Hv5672 rfl (u64s_getD hb5675) (by kernel_rfl) ?_
   intro ac5676 En5677
   refine d_pures [(1, .slice at1 (List.length (List.drop (16 * q) lx)) ct), (4, pt bk6), (5, pt bk20), (6, .func (.func 25) #[] #[pt bk20]), (7, pt bk53), (8, pt bk62), (12, pt bk5664), (66, .int .i64 1), (72, .bool (decide (((UInt64.toNat (List.getD (plusF v0 (5 : UInt64) (0 : UInt64) (0 : UInt64)) 2 0) : Nat) : Int) ≥ (4 : Int))))] [.bool (decide (((UInt64.toNat (List.getD (plusF v0 (5 : UInt64) (0 : UInt64) (0 : UInt64)) 2 0) : Nat) : Int) ≥ (4 : Int)))] 3 En5677 (by kernel_rfl) (by kernel_rfl) rfl ?_
   intro ac5678 En5679
   refine from_end (by kernel_rfl) ?_
   refine then_normal ?_
   have htg1 := top_ge hl_v0 (v := v0) (by omega)
   refine region_cut (F := fun ac wo => ∃ (v1 : List UInt64), Env ac 101 [(1, .slice at1 (List.length (List.drop (16 * q) lx)) ct), (4, pt bk6), (5, pt bk20), (6, .func (.func 25) #[] #[pt bk20]), (7, pt bk53), (8, pt bk62), (66, .int .i64 1)] ∧ Ev w [] wo [.box bk62 (u64s v1) 54, .box bk20 [.slice aoq13 (List.length (wordsF lk)) coq13] 43, .vec aoq13 coq13 1 (u32s (wordsF lk)) 23, .box bk6 (bys (List.replicate 16 0)) 31, .box bk53 (u64s (rF lk)) 52] ∧ (List.length v1 = 3) ∧ (dv B64 v1 < 1361129467683753853853498429727072845819) ∧ (dv B64 v1 % 1361129467683753853853498429727072845819 = macQ (dv B64 (rF lk)) lx q)) ?_ ?_
   ·
    refine cond_at En5679 (t := decide (((UInt64.toNat (List.getD (plusF v0 (5 : UInt64) (0 : UInt64) (0 : UInt64)) 2 0) : Nat) : Int) ≥ (4 : Int))) (by kernel_rfl) (fun hc5680 => ?_) (fun hc5680 => ?_)
    ·
     replace hc5680 : ((UInt64.toNat (List.getD (plusF v0 (5 : UInt64) (0 : UInt64) (0 : UInt64)) 2 0) : Nat) : Int) ≥ (4 : Int) := of_decide_eq_true hc5680
     refine wp_seq ?_
     refine region_from ?_
     refine from_op (by kernel_rfl) ?_
     refine op_val (d := some 73) (x := Instr.indexAt 54 (pt bk5664) (.int .i64 2)) (v := .pointer (some ⟨bk5664, 2, none⟩)) En5679 (by kernel_rfl) (Go.Dbr.run_indexarr (e := 49) (sz := 1) (m := 3) (j := 2) (o := 2) (by kernel_rfl) (by kernel_rfl) (by omega) (by omega) (by omega) _) ?_
     intro ac5681 En5682
     refine from_op (by kernel_rfl) ?_
     have hb5683 : 2 < List.length (plusF v0 (5 : UInt64) (0 : UInt64) (0 : UInt64)) := by rw [(plusF_len _ _ _ _)]; omega
     refine op_loadbox (d := some 74) (t := 49) (b := bk5664) (off := 2) (k := 5) (v := .int .u64 ((UInt64.toNat (List.getD (plusF v0 (5 : UInt64) (0 : UInt64) (0 : UInt64)) 2 0) : Nat) : Int)) En5682 (by kernel_rfl) Hv5672 rfl (u64s_getD hb5683) (by kernel_rfl) ?_
     intro ac5684 En5685
     refine d_pures [(1, .slice at1 (List.length (List.drop (16 * q) lx)) ct), (4, pt bk6), (5, pt bk20), (6, .func (.func 25) #[] #[pt bk20]), (7, pt bk53), (8, pt bk62), (12, pt bk5664), (66, .int .i64 1), (75, .int .u64 (IntKind.wrap .u64 (((UInt64.toNat (List.getD (plusF v0 (5 : UInt64) (0 : UInt64) (0 : UInt64)) 2 0) : Nat) : Int) - (4 : Int))))] [.int .u64 (IntKind.wrap .u64 (((UInt64.toNat (List.getD (plusF v0 (5 : UInt64) (0 : UInt64) (0 : UInt64)) 2 0) : Nat) : Int) - (4 : Int)))] 3 En5685 (by kernel_rfl) (by kernel_rfl) rfl ?_
     intro ac5686 En5687
     rw [Go.Dbr.u64_sub (a := ((UInt64.toNat (List.getD (plusF v0 (5 : UInt64) (0 : UInt64) (0 : UInt64)) 2 0) : Nat) : Int)) (b := (4 : Int)) (x := List.getD (plusF v0 (5 : UInt64) (0 : UInt64) (0 : UInt64)) 2 0) (y := (4 : UInt64)) rfl rfl] at En5687
     refine from_op (by kernel_rfl) ?_
     refine op_val (d := some 76) (x := Instr.indexAt 54 (pt bk5664) (.int .i64 2)) (v := .pointer (some ⟨bk5664, 2, none⟩)) En5687 (by kernel_rfl) (Go.Dbr.run_indexarr (e := 49) (sz := 1) (m := 3) (j := 2) (o := 2) (by kernel_rfl) (by kernel_rfl) (by omega) (by omega) (by omega) _) ?_
     intro ac5688 En5689
     refine from_op (by kernel_rfl) ?_
     have hb5690 : 2 < List.length (plusF v0 (5 : UInt64) (0 : UInt64) (0 : UInt64)) := by rw [(plusF_len _ _ _ _)]; omega
     refine op_storebox2 (d := none) (t := 49) (b := bk5664) (off := 2) (k := 5) (v := .int .u64 ((UInt64.toNat ((List.getD (plusF v0 (5 : UInt64) (0 : UInt64) (0 : UInt64)) 2 0) - (4 : UInt64)) : Nat) : Int)) En5689 (by kernel_rfl) Hv5672 rfl (u64s_getD hb5690) (by kernel_rfl) rfl (u64s_set _ _ _) (L' := [.box bk62 (u64s v0) 54, .box bk20 [.slice aoq13 (List.length (wordsF lk)) coq13] 43, .vec aoq13 coq13 1 (u32s (wordsF lk)) 23, .box bk6 (bys (List.replicate 16 0)) 31, .box bk53 (u64s (rF lk)) 52, .box bk5664 (u64s (List.set (plusF v0 (5 : UInt64) (0 : UInt64) (0 : UInt64)) 2 ((List.getD (plusF v0 (5 : UInt64) (0 : UInt64) (0 : UInt64)) 2 0) - (4 : UInt64)))) 54]) rfl ?_
     intro ac5691 wo5692  En5693 Hv5694
     refine from_end (by kernel_rfl) ?_
     refine then_normal ?_
     refine region_from ?_
     refine from_op (by kernel_rfl) ?_
     refine op_loadaggbox (d := some 77) (t := 54) (b := bk5664) (off := 0) (k := 5) (m := 3) (xs := u64s (List.set (plusF v0 (5 : UInt64) (0 : UInt64) (0 : UInt64)) 2 ((List.getD (plusF v0 (5 : UInt64) (0 : UInt64) (0 : UInt64)) 2 0) - (4 : UInt64)))) En5693 (by kernel_rfl) Hv5694 rfl (load_whole (u64s_lenh (List.length_set.trans (plusF_len _ _ _ _)))) (u64s_lenh (List.length_set.trans (plusF_len _ _ _ _))) (by kernel_rfl) (by kernel_rfl) ?_
     intro ac5695 En5696
     refine from_op (by kernel_rfl) ?_
     refine op_storeaggbox (d := none) (t := 54) (b := bk62) (off := 0) (k := 0) (m := 3) (xs := u64s (List.set (plusF v0 (5 : UInt64) (0 : UInt64) (0 : UInt64)) 2 ((List.getD (plusF v0 (5 : UInt64) (0 : UInt64) (0 : UInt64)) 2 0) - (4 : UInt64)))) (v := .agg (List.toArray (u64s (List.set (plusF v0 (5 : UInt64) (0 : UInt64) (0 : UInt64)) 2 ((List.getD (plusF v0 (5 : UInt64) (0 : UInt64) (0 : UInt64)) 2 0) - (4 : UInt64)))))) (cs' := u64s (List.set (plusF v0 (5 : UInt64) (0 : UInt64) (0 : UInt64)) 2 ((List.getD (plusF v0 (5 : UInt64) (0 : UInt64) (0 : UInt64)) 2 0) - (4 : UInt64)))) En5696 (by kernel_rfl) Hv5694 rfl rfl (u64s_lenh (List.length_set.trans (plusF_len _ _ _ _))) (by rw [(u64s_lenh hl_v0)]; decide) (by kernel_rfl) (u64s_one _) (store_whole (u64s_lenh hl_v0)) (L' := [.box bk62 (u64s (List.set (plusF v0 (5 : UInt64) (0 : UInt64) (0 : UInt64)) 2 ((List.getD (plusF v0 (5 : UInt64) (0 : UInt64) (0 : UInt64)) 2 0) - (4 : UInt64)))) 54, .box bk20 [.slice aoq13 (List.length (wordsF lk)) coq13] 43, .vec aoq13 coq13 1 (u32s (wordsF lk)) 23, .box bk6 (bys (List.replicate 16 0)) 31, .box bk53 (u64s (rF lk)) 52, .box bk5664 (u64s (List.set (plusF v0 (5 : UInt64) (0 : UInt64) (0 : UInt64)) 2 ((List.getD (plusF v0 (5 : UInt64) (0 : UInt64) (0 : UInt64)) 2 0) - (4 : UInt64)))) 54]) rfl ?_
     intro ac5697 wo5698  En5699 Hv5700
     refine from_end (by kernel_rfl) ?_
     have hoff := top_off (plusF_len v0 5 0 0) (by omega)
     exact ⟨rfl, ⟨(List.set (plusF v0 (5 : UInt64) (0 : UInt64) (0 : UInt64)) 2 ((List.getD (plusF v0 (5 : UInt64) (0 : UInt64) (0 : UInt64)) 2 0) - (4 : UInt64))), En5699.sub (by kernel_rfl), Hv5700.pick [0, 1, 2, 3, 4] (by kernel_rfl) (by decide), (List.length_set.trans (plusF_len _ _ _ _)), by omega, (by rw [← hm_v0]; omega)⟩⟩
    ·
     replace hc5680 : ¬ (((UInt64.toNat (List.getD (plusF v0 (5 : UInt64) (0 : UInt64) (0 : UInt64)) 2 0) : Nat) : Int) ≥ (4 : Int)) := of_decide_eq_false hc5680
     refine wp_skip ?_
     exact ⟨rfl, ⟨v0, En5679.sub (by kernel_rfl), Hv5672.pick [0, 1, 2, 3, 4] (by kernel_rfl) (by decide), hl_v0, by omega, hm_v0⟩⟩
   ·
    rintro ac5701 wo5702 ⟨v1, En5703, Hv5704, hl_v1, hb_v1, hm_v1⟩
    refine block_normal ?_
    refine then_normal ?_
    refine region_from ?_
    refine d_pures [(1, .slice at1 (List.length (List.drop (16 * q) lx)) ct), (4, pt bk6), (5, pt bk20), (6, .func (.func 25) #[] #[pt bk20]), (7, pt bk53), (8, pt bk62), (66, .int .i64 2)] [.int .i64 2, .int .i64 2] 2 En5703 (by kernel_rfl) (by kernel_rfl) rfl ?_
    intro ac5705 En5706
    refine from_end (by kernel_rfl) ?_
    refine then_normal ?_
    refine loop_once ?_
    refine wp_seq ?_
    refine region_from ?_
    refine d_pures [(1, .slice at1 (List.length (List.drop (16 * q) lx)) ct), (4, pt bk6), (5, pt bk20), (6, .func (.func 25) #[] #[pt bk20]), (7, pt bk53), (8, pt bk62), (66, .int .i64 2), (67, .bool false)] [.bool false] 1 En5706 (by kernel_rfl) (by kernel_rfl) rfl ?_
    intro ac5707 En5708
    refine from_end (by kernel_rfl) ?_
    refine then_normal ?_
    refine wp_seq ?_
    refine cond_false En5708 (t := false) (by kernel_rfl) rfl ?_
    refine wp_exit ?_
    refine then_exit ?_
    refine then_exit ?_
    refine block_exit ?_
    refine then_normal ?_
    refine wp_seq ?_
    refine region_cut (F := fun ac wo => Env ac 101 [(1, .slice at1 (List.length (List.drop (16 * q) lx)) ct), (4, pt bk6), (5, pt bk20), (6, .func (.func 25) #[] #[pt bk20]), (7, pt bk53), (8, pt bk62), (66, .int .i64 2)] ∧ Ev w [] wo [.box bk20 [.slice aoq13 (List.length (wordsF lk)) coq13] 43, .vec aoq13 coq13 1 (u32s (wordsF lk)) 23, .box bk62 (u64s (plusF v1 (twoF (wordsF lk) 4) (twoF (wordsF lk) 6) (0 : UInt64))) 54, .box bk6 (bys (List.replicate 16 0)) 31, .box bk53 (u64s (rF lk)) 52]) ?_ ?_
    ·
     refine h_start (fun wv => Ev w [] wv [.box bk62 (u64s v1) 54]) [6] (by kernel_rfl) 7 (by kernel_rfl) ?_
     have wo5709 := Hv5704.trans (Ev.drew Hv5704.heap)
     refine h_read (d := some 79) (s := nv (Instr.loadAt 54 (pt bk62))) En5708 (v := .agg (List.toArray (u64s v1))) 0 (by kernel_rfl) (fun w hS => run_nv (run_loadAgg2 (m := 3) (cs := u64s v1) (u64s_lenh hl_v1) (by kernel_rfl) (by kernel_rfl) (hS.heap.cells (k := 0) (off := 0) (m := 3) rfl (load_whole (u64s_lenh hl_v1))))) (by kernel_rfl) rfl (wo5709.pick [0] (by kernel_rfl) (by decide)) ?_
     intro ac5808 En5809
     refine h_pureR (d := some 80) En5809 (v := .func (.func 25) #[] #[pt bk20]) 1 (by kernel_rfl) (by kernel_rfl) rfl (fun _ => wo5709.pick [0] (by kernel_rfl) (by decide)) ?_
     intro ac5810 En5811
     refine h_pureR (d := some 82) En5811 (v := .func (.func 25) #[] #[pt bk20]) 3 (by kernel_rfl) (by kernel_rfl) rfl (fun _ => wo5709.pick [0] (by kernel_rfl) (by decide)) ?_
     intro ac5812 En5813
     refine h_at 2 (by kernel_rfl) rfl ?_
     have hM5814 : Heap wo5702.drew [.box bk20 [.slice aoq13 (List.length (wordsF lk)) coq13] 43, .vec aoq13 coq13 1 (u32s (wordsF lk)) 23] := wo5709.heap.pick [1, 2] (by kernel_rfl) (by decide)
     refine op_call (d := some 81) (f := 25) (args := #[.int .i64 4, pt bk20]) En5813 (by kernel_rfl) ((two_go _ bk20 aoq13 coq13 (wordsF lk) 4 (by omega) (by decide) hM5814).mono ?_)
     rintro _ wo5816 ⟨rfl, he5819⟩
     refine ⟨_, rfl, ?_⟩
     intro ac5815 En5817
     have Hv5818 : Ev w [] wo5816 [.box bk20 [.slice aoq13 (List.length (wordsF lk)) coq13] 43, .vec aoq13 coq13 1 (u32s (wordsF lk)) 23, .box bk62 (u64s v1) 54, .box bk6 (bys (List.replicate 16 0)) 31, .box bk53 (u64s (rF lk)) 52] := wo5709.trans (Ev.call (R := [.box bk62 (u64s v1) 54, .box bk6 (bys (List.replicate 16 0)) 31, .box bk53 (u64s (rF lk)) 52]) wo5709.heap [1, 2, 0, 3, 4] (by kernel_rfl) (by decide) he5819)
     clear hM5814 he5819
     refine ⟨fun _ => Hv5818.pick [2] (by kernel_rfl) (by decide), ?_⟩
     refine h_at 4 (by kernel_rfl) rfl ?_
     have hM5820 : Heap wo5816 [.box bk20 [.slice aoq13 (List.length (wordsF lk)) coq13] 43, .vec aoq13 coq13 1 (u32s (wordsF lk)) 23] := Hv5818.heap.pick [0, 1] (by kernel_rfl) (by decide)
     refine op_call (d := some 83) (f := 25) (args := #[.int .i64 6, pt bk20]) En5817 (by kernel_rfl) ((two_go _ bk20 aoq13 coq13 (wordsF lk) 6 (by omega) (by decide) hM5820).mono ?_)
     rintro _ wo5822 ⟨rfl, he5825⟩
     refine ⟨_, rfl, ?_⟩
     intro ac5821 En5823
     have Hv5824 : Ev w [] wo5822 [.box bk20 [.slice aoq13 (List.length (wordsF lk)) coq13] 43, .vec aoq13 coq13 1 (u32s (wordsF lk)) 23, .box bk62 (u64s v1) 54, .box bk6 (bys (List.replicate 16 0)) 31, .box bk53 (u64s (rF lk)) 52] := Hv5818.trans (Ev.call (R := [.box bk62 (u64s v1) 54, .box bk6 (bys (List.replicate 16 0)) 31, .box bk53 (u64s (rF lk)) 52]) Hv5818.heap [0, 1, 2, 3, 4] (by kernel_rfl) (by decide) he5825)
     clear hM5820 he5825
     refine ⟨fun _ => Hv5824.pick [2] (by kernel_rfl) (by decide), ?_⟩
     refine h_at 5 (by kernel_rfl) rfl ?_
     have hM5826 : Heap wo5822 [] := Hv5824.heap.pick [] (by kernel_rfl) (by decide)
     refine op_call (d := some 84) (f := 26) (args := #[.agg (List.toArray (u64s v1)), .int .u64 ((UInt64.toNat (twoF (wordsF lk) 4) : Nat) : Int), .int .u64 ((UInt64.toNat (twoF (wordsF lk) 6) : Nat) : Int), .int .u64 0]) En5823 (by kernel_rfl) ((plus_go _ v1 hl_v1 (twoF (wordsF lk) 4) (twoF (wordsF lk) 6) (0 : UInt64)).mono ?_)
     rintro _ wo5828 ⟨rfl, he5831⟩
     refine ⟨_, rfl, ?_⟩
     intro ac5827 En5829
     have Hv5830 : Ev w [] wo5828 [.box bk20 [.slice aoq13 (List.length (wordsF lk)) coq13] 43, .vec aoq13 coq13 1 (u32s (wordsF lk)) 23, .box bk62 (u64s v1) 54, .box bk6 (bys (List.replicate 16 0)) 31, .box bk53 (u64s (rF lk)) 52] := Hv5824.trans (Ev.call (R := [.box bk20 [.slice aoq13 (List.length (wordsF lk)) coq13] 43, .vec aoq13 coq13 1 (u32s (wordsF lk)) 23, .box bk62 (u64s v1) 54, .box bk6 (bys (List.replicate 16 0)) 31, .box bk53 (u64s (rF lk)) 52]) Hv5824.heap [0, 1, 2, 3, 4] (by kernel_rfl) (by decide) he5831)
     clear hM5826 he5831
     refine ⟨fun _ => Hv5830.pick [2] (by kernel_rfl) (by decide), ?_⟩
     refine h_at 6 (by kernel_rfl) rfl ?_
     refine op_storeaggbox (d := none) (t := 54) (b := bk62) (off := 0) (k := 2) (m := 3) (xs := u64s (plusF v1 (twoF (wordsF lk) 4) (twoF (wordsF lk) 6) (0 : UInt64))) (v := .agg (List.toArray (u64s (plusF v1 (twoF (wordsF lk) 4) (twoF (wordsF lk) 6) (0 : UInt64))))) (cs' := u64s (plusF v1 (twoF (wordsF lk) 4) (twoF (wordsF lk) 6) (0 : UInt64))) En5829 (by kernel_rfl) Hv5830 rfl rfl (u64s_lenh (plusF_len _ _ _ _)) (by rw [(u64s_lenh hl_v1)]; decide) (by kernel_rfl) (u64s_one _) (store_whole (u64s_lenh hl_v1)) (L' := [.box bk20 [.slice aoq13 (List.length (wordsF lk)) coq13] 43, .vec aoq13 coq13 1 (u32s (wordsF lk)) 23, .box bk62 (u64s (plusF v1 (twoF (wordsF lk) 4) (twoF (wordsF lk) 6) (0 : UInt64))) 54, .box bk6 (bys (List.replicate 16 0)) 31, .box bk53 (u64s (rF lk)) 52]) rfl ?_
     intro ac5832 wo5833  En5834 Hv5835
     refine ⟨not_yet (by kernel_rfl), ?_⟩
     exact h_end (by kernel_rfl) ⟨En5834.sub (by kernel_rfl), Hv5835.pick [0, 1, 2, 3, 4] (by kernel_rfl) (by decide)⟩
    rintro ac5836 wo5837 ⟨En5838, Hv5839⟩
    refine then_normal ?_
    refine wp_seq ?_
    refine region_from ?_
    refine from_op (by kernel_rfl) ?_
    refine op_alloc (d := some 13) (T := 31) (x := .tuple #[]) (z := .agg (List.toArray (bys (List.replicate 16 0)))) (cs := bys (List.replicate 16 0)) En5838 (by kernel_rfl) (by kernel_rfl) (by kernel_rfl) Hv5839 ?_
    intro ac5841 wo5842 bk5840 En5843 Hv5844
    refine from_end (by kernel_rfl) ?_
    refine then_normal ?_
    refine wp_seq ?_
    refine wp_seq ?_
    refine region_from ?_
    refine d_pures [(1, .slice at1 (List.length (List.drop (16 * q) lx)) ct), (4, pt bk6), (5, pt bk20), (6, .func (.func 25) #[] #[pt bk20]), (7, pt bk53), (8, pt bk62), (13, pt bk5840), (66, .int .i64 2), (85, .int .i64 0)] [.int .i64 0] 1 En5843 (by kernel_rfl) (by kernel_rfl) rfl ?_
    intro ac5845 En5846
    refine from_end (by kernel_rfl) ?_
    refine then_normal ?_
    refine wp_block ?_
    have hv1 := mac_done hm_v1 hb_v1
    have hlast : dv B64 (plusF v1 (twoF (wordsF lk) 4) (twoF (wordsF lk) 6) 0) = macN lk lx + ((twoF (wordsF lk) 4).toNat + B64 * (twoF (wordsF lk) 6).toNat) := by
      have a4 := lt64 (twoF (wordsF lk) 4); have a6 := lt64 (twoF (wordsF lk) 6); have e0 : (0 : UInt64).toNat = 0 := rfl
      rw [plusF_val hl_v1 _ _ _ (by rw [e0]; simp only [B64] at *; omega), e0, hv1, macN, ← hqe]; omega
    have hby : ∀ j, j < 16 → UInt64.toUInt8 (List.getD (plusF v1 (twoF (wordsF lk) 4) (twoF (wordsF lk) 6) 0) (j / 8) 0 >>> UInt64.ofNat (8 * (j % 8))) = polyB lk lx j := fun j hj => by rw [byte_of (plusF_len _ _ _ _) hj, hlast]; rfl
    refine loop_m (fun ms5847 ac wo => ∃ (i : Nat) (o : List UInt8), ms5847 = (16 - i : Nat) ∧ Env ac 101 [(1, .slice at1 (List.length (List.drop (16 * q) lx)) ct), (4, pt bk6), (5, pt bk20), (6, .func (.func 25) #[] #[pt bk20]), (7, pt bk53), (8, pt bk62), (13, pt bk5840), (66, .int .i64 2), (85, ni i)] ∧ Ev w [] wo [.box bk5840 (bys o) 31, .box bk20 [.slice aoq13 (List.length (wordsF lk)) coq13] 43, .vec aoq13 coq13 1 (u32s (wordsF lk)) 23, .box bk62 (u64s (plusF v1 (twoF (wordsF lk) 4) (twoF (wordsF lk) 6) (0 : UInt64))) 54, .box bk6 (bys (List.replicate 16 0)) 31, .box bk53 (u64s (rF lk)) 52] ∧ (i ≤ 16) ∧ (List.length o = 16) ∧ (∀ j, j < 16 → List.getD o j 0 = if j < i then polyB lk lx j else 0)) ⟨_, 0, List.replicate 16 0, rfl, En5846.sub (by kernel_rfl), Hv5844.pick [5, 0, 1, 2, 3, 4] (by kernel_rfl) (by decide), by omega, (List.length_replicate), fun j hj => by rw [getD_replicate, if_neg (by omega)]⟩ ?_
    rintro mm5853 ac5849 wo5850 ⟨i, o, rfl, En5851, Hv5852, hi, ho, hpo⟩
    refine wp_seq ?_
    refine region_from ?_
    refine d_pures [(1, .slice at1 (List.length (List.drop (16 * q) lx)) ct), (4, pt bk6), (5, pt bk20), (6, .func (.func 25) #[] #[pt bk20]), (7, pt bk53), (8, pt bk62), (13, pt bk5840), (66, .int .i64 2), (85, ni i), (86, .bool (decide (((i : Nat) : Int) < (16 : Int))))] [.bool (decide (((i : Nat) : Int) < (16 : Int)))] 1 En5851 (by kernel_rfl) (by kernel_rfl) rfl ?_
    intro ac5854 En5855
    refine from_end (by kernel_rfl) ?_
    refine then_normal ?_
    refine wp_seq ?_
    refine cond_at En5855 (t := decide (((i : Nat) : Int) < (16 : Int))) (by kernel_rfl) (fun hc5856 => ?_) (fun hc5856 => ?_)
    ·
     replace hc5856 : ((i : Nat) : Int) < (16 : Int) := of_decide_eq_true hc5856
     refine wp_skip ?_
     refine then_normal ?_
     refine wp_seq ?_
     refine wp_block ?_
     refine wp_seq ?_
     refine region_from ?_
     refine d_pures [(1, .slice at1 (List.length (List.drop (16 * q) lx)) ct), (4, pt bk6), (5, pt bk20), (6, .func (.func 25) #[] #[pt bk20]), (7, pt bk53), (8, pt bk62), (13, pt bk5840), (14, ni i), (66, .int .i64 2), (85, ni i)] [ni i, ni i] 2 En5855 (by kernel_rfl) (by kernel_rfl) rfl ?_
     intro ac5857 En5858
     refine from_end (by kernel_rfl) ?_
     refine then_normal ?_
     refine region_from ?_
     refine d_pures [(1, .slice at1 (List.length (List.drop (16 * q) lx)) ct), (4, pt bk6), (5, pt bk20), (6, .func (.func 25) #[] #[pt bk20]), (7, pt bk53), (8, pt bk62), (13, pt bk5840), (14, ni i), (66, .int .i64 2), (85, ni i), (88, ni i), (90, .int .i64 (IntKind.wrap .i64 (Int.tdiv ((i : Nat) : Int) (8 : Int))))] [ni i, ni i, .int .i64 (IntKind.wrap .i64 (Int.tdiv ((i : Nat) : Int) (8 : Int)))] 3 En5858 (by kernel_rfl) (by kernel_rfl) rfl ?_
     intro ac5859 En5860
     rw [show IntKind.wrap .i64 (Int.tdiv ((i : Nat) : Int) (8 : Int)) = ((i / 8 : Nat) : Int) from Go.Dbr.i64_quo_nat (a := ((i : Nat) : Int)) (n := i) (m := 8) rfl (by omega)] at En5860
     refine from_op (by kernel_rfl) ?_
     refine op_val (d := some 91) (x := Instr.indexAt 54 (pt bk62) (.int .i64 ((i / 8 : Nat) : Int))) (v := .pointer (some ⟨bk62, i / 8, none⟩)) En5860 (by kernel_rfl) (Go.Dbr.run_indexarr (e := 49) (sz := 1) (m := 3) (j := i / 8) (o := i / 8) (by kernel_rfl) (by kernel_rfl) (by omega) (by omega) (by omega) _) ?_
     intro ac5861 En5862
     refine from_op (by kernel_rfl) ?_
     have hb5863 : i / 8 < List.length (plusF v1 (twoF (wordsF lk) 4) (twoF (wordsF lk) 6) (0 : UInt64)) := by rw [(plusF_len _ _ _ _)]; omega
     refine op_loadbox (d := some 92) (t := 49) (b := bk62) (off := i / 8) (k := 3) (v := .int .u64 ((UInt64.toNat (List.getD (plusF v1 (twoF (wordsF lk) 4) (twoF (wordsF lk) 6) (0 : UInt64)) (i / 8) 0) : Nat) : Int)) En5862 (by kernel_rfl) Hv5852 rfl (u64s_getD hb5863) (by kernel_rfl) ?_
     intro ac5864 En5865
     refine d_pures [(1, .slice at1 (List.length (List.drop (16 * q) lx)) ct), (4, pt bk6), (5, pt bk20), (6, .func (.func 25) #[] #[pt bk20]), (7, pt bk53), (8, pt bk62), (13, pt bk5840), (66, .int .i64 2), (85, ni i), (88, ni i), (92, .int .u64 ((UInt64.toNat (List.getD (plusF v1 (twoF (wordsF lk) 4) (twoF (wordsF lk) 6) (0 : UInt64)) (i / 8) 0) : Nat) : Int)), (94, .int .i64 (Int.tmod ((i : Nat) : Int) (8 : Int)))] [ni i, .int .i64 (Int.tmod ((i : Nat) : Int) (8 : Int))] 7 En5865 (by kernel_rfl) (by kernel_rfl) rfl ?_
     intro ac5866 En5867
     rw [show Int.tmod ((i : Nat) : Int) (8 : Int) = ((i % 8 : Nat) : Int) from Go.Dbr.i64_rem_nat (a := ((i : Nat) : Int)) (n := i) (m := 8) rfl (by omega)] at En5867
     refine d_pures [(1, .slice at1 (List.length (List.drop (16 * q) lx)) ct), (4, pt bk6), (5, pt bk20), (6, .func (.func 25) #[] #[pt bk20]), (7, pt bk53), (8, pt bk62), (13, pt bk5840), (66, .int .i64 2), (85, ni i), (88, ni i), (92, .int .u64 ((UInt64.toNat (List.getD (plusF v1 (twoF (wordsF lk) 4) (twoF (wordsF lk) 6) (0 : UInt64)) (i / 8) 0) : Nat) : Int)), (95, .int .i64 (IntKind.wrap .i64 ((8 : Int) * ((i % 8 : Nat) : Int))))] [.int .i64 (IntKind.wrap .i64 ((8 : Int) * ((i % 8 : Nat) : Int)))] 8 En5867 (by kernel_rfl) (by kernel_rfl) rfl ?_
     intro ac5868 En5869
     rw [Go.Dbr.wr64 (e := (8 : Int) * ((i % 8 : Nat) : Int)) (x := ((8 * (i % 8) : Nat) : Int)) (by omega) (by omega) (by omega)] at En5869
     refine from_op (by kernel_rfl) ?_
     refine op_val (d := some 96) (x := Op.shift .shr .u64 ((UInt64.toNat (List.getD (plusF v1 (twoF (wordsF lk) 4) (twoF (wordsF lk) 6) (0 : UInt64)) (i / 8) 0) : Nat) : Int) .i64 ((8 * (i % 8) : Nat) : Int)) (v := .int .u64 ((UInt64.toNat ((List.getD (plusF v1 (twoF (wordsF lk) 4) (twoF (wordsF lk) 6) (0 : UInt64)) (i / 8) 0) >>> UInt64.ofNat (8 * (i % 8))) : Nat) : Int)) En5869 (by kernel_rfl) (Go.Dbr.run_shr_u64 (List.getD (plusF v1 (twoF (wordsF lk) 4) (twoF (wordsF lk) 6) (0 : UInt64)) (i / 8) 0) .i64 (8 * (i % 8)) (by omega) _) ?_
     intro ac5870 En5871
     refine d_pures [(1, .slice at1 (List.length (List.drop (16 * q) lx)) ct), (4, pt bk6), (5, pt bk20), (6, .func (.func 25) #[] #[pt bk20]), (7, pt bk53), (8, pt bk62), (13, pt bk5840), (66, .int .i64 2), (85, ni i), (88, ni i), (97, .int .u8 (IntKind.wrap .u8 ((UInt64.toNat ((List.getD (plusF v1 (twoF (wordsF lk) 4) (twoF (wordsF lk) 6) (0 : UInt64)) (i / 8) 0) >>> UInt64.ofNat (8 * (i % 8))) : Nat) : Int)))] [.int .u8 (IntKind.wrap .u8 ((UInt64.toNat ((List.getD (plusF v1 (twoF (wordsF lk) 4) (twoF (wordsF lk) 6) (0 : UInt64)) (i / 8) 0) >>> UInt64.ofNat (8 * (i % 8))) : Nat) : Int))] 10 En5871 (by kernel_rfl) (by kernel_rfl) rfl ?_
     intro ac5872 En5873
     rw [Go.Dbr.u64_to_u8 (a := ((UInt64.toNat ((List.getD (plusF v1 (twoF (wordsF lk) 4) (twoF (wordsF lk) 6) (0 : UInt64)) (i / 8) 0) >>> UInt64.ofNat (8 * (i % 8))) : Nat) : Int)) (x := (List.getD (plusF v1 (twoF (wordsF lk) 4) (twoF (wordsF lk) 6) (0 : UInt64)) (i / 8) 0) >>> UInt64.ofNat (8 * (i % 8))) rfl] at En5873
     refine from_op (by kernel_rfl) ?_
     refine op_val (d := some 98) (x := Instr.indexAt 31 (pt bk5840) (ni i)) (v := .pointer (some ⟨bk5840, i, none⟩)) En5873 (by kernel_rfl) (Go.Dbr.run_indexarr (e := 5) (sz := 1) (m := 16) (j := i) (o := i) (by kernel_rfl) (by kernel_rfl) (by omega) (by omega) (by omega) _) ?_
     intro ac5874 En5875
     refine from_op (by kernel_rfl) ?_
     have hb5876 : i < List.length o := by rw [ho]; omega
     refine op_storebox2 (d := none) (t := 5) (b := bk5840) (off := i) (k := 0) (v := .int .u8 ((UInt8.toNat (UInt64.toUInt8 ((List.getD (plusF v1 (twoF (wordsF lk) 4) (twoF (wordsF lk) 6) (0 : UInt64)) (i / 8) 0) >>> UInt64.ofNat (8 * (i % 8)))) : Nat) : Int)) En5875 (by kernel_rfl) Hv5852 rfl (bys_getD hb5876) (by kernel_rfl) rfl (bys_set _ _ _) (L' := [.box bk5840 (bys (List.set o i (UInt64.toUInt8 ((List.getD (plusF v1 (twoF (wordsF lk) 4) (twoF (wordsF lk) 6) (0 : UInt64)) (i / 8) 0) >>> UInt64.ofNat (8 * (i % 8)))))) 31, .box bk20 [.slice aoq13 (List.length (wordsF lk)) coq13] 43, .vec aoq13 coq13 1 (u32s (wordsF lk)) 23, .box bk62 (u64s (plusF v1 (twoF (wordsF lk) 4) (twoF (wordsF lk) 6) (0 : UInt64))) 54, .box bk6 (bys (List.replicate 16 0)) 31, .box bk53 (u64s (rF lk)) 52]) rfl ?_
     intro ac5877 wo5878  En5879 Hv5880
     refine from_end (by kernel_rfl) ?_
     refine block_normal ?_
     refine then_normal ?_
     refine region_from ?_
     refine d_pures [(1, .slice at1 (List.length (List.drop (16 * q) lx)) ct), (4, pt bk6), (5, pt bk20), (6, .func (.func 25) #[] #[pt bk20]), (7, pt bk53), (8, pt bk62), (13, pt bk5840), (66, .int .i64 2), (85, ni i), (99, .int .i64 (IntKind.wrap .i64 (((i : Nat) : Int) + (1 : Int))))] [.int .i64 (IntKind.wrap .i64 (((i : Nat) : Int) + (1 : Int)))] 1 En5879 (by kernel_rfl) (by kernel_rfl) rfl ?_
     intro ac5881 En5882
     rw [Go.Dbr.wr64 (e := ((i : Nat) : Int) + (1 : Int)) (x := ((i + 1 : Nat) : Int)) (by omega) (by omega) (by omega)] at En5882
     refine d_pures [(1, .slice at1 (List.length (List.drop (16 * q) lx)) ct), (4, pt bk6), (5, pt bk20), (6, .func (.func 25) #[] #[pt bk20]), (7, pt bk53), (8, pt bk62), (13, pt bk5840), (66, .int .i64 2), (85, .int .i64 ((i + 1 : Nat) : Int))] [.int .i64 ((i + 1 : Nat) : Int)] 2 En5882 (by kernel_rfl) (by kernel_rfl) rfl ?_
     intro ac5883 En5884
     refine from_end (by kernel_rfl) ?_
     refine then_normal ?_
     rw [hby i (by omega)] at Hv5880
     refine ⟨_, ⟨i + 1, List.set o i (polyB lk lx i), rfl, En5884.sub (by kernel_rfl), Hv5880.pick [0, 1, 2, 3, 4, 5] (by kernel_rfl) (by decide), by omega, by simp [ho], upto_set (f := polyB lk lx) (g := fun _ => 0) ho hpo (by omega)⟩, ?_⟩
     omega
    ·
     replace hc5856 : ¬ (((i : Nat) : Int) < (16 : Int)) := of_decide_eq_false hc5856
     refine wp_exit ?_
     refine then_exit ?_
     refine then_exit ?_
     refine block_exit ?_
     refine then_normal ?_
     refine wp_seq ?_
     have hi16 : i = 16 := by omega
     have eo : o = polyF lk lx := eq_range_map 0 ho (fun j hj => by rw [hpo j hj, if_pos (by omega)])
     rw [show o = (polyF lk lx) from eo] at Hv5852
     refine region_from ?_
     refine from_op (by kernel_rfl) ?_
     refine op_loadaggbox (d := some 100) (t := 31) (b := bk5840) (off := 0) (k := 0) (m := 16) (xs := bys (polyF lk lx)) En5855 (by kernel_rfl) Hv5852 rfl (load_whole (bys_lenh (polyF_len lk lx))) (bys_lenh (polyF_len lk lx)) (by kernel_rfl) (by kernel_rfl) ?_
     intro ac5885 En5886
     refine from_op (by kernel_rfl) ?_
     refine op_storeaggbox (d := none) (t := 31) (b := bk6) (off := 0) (k := 4) (m := 16) (xs := bys (polyF lk lx)) (v := .agg (List.toArray (bys (polyF lk lx)))) (cs' := bys (polyF lk lx)) En5886 (by kernel_rfl) Hv5852 rfl rfl (bys_lenh (polyF_len lk lx)) (by rw [(bys_lenh (List.length_replicate))]; decide) (by kernel_rfl) (bys_one _) (store_whole (bys_lenh (List.length_replicate))) (L' := [.box bk5840 (bys (polyF lk lx)) 31, .box bk20 [.slice aoq13 (List.length (wordsF lk)) coq13] 43, .vec aoq13 coq13 1 (u32s (wordsF lk)) 23, .box bk62 (u64s (plusF v1 (twoF (wordsF lk) 4) (twoF (wordsF lk) 6) (0 : UInt64))) 54, .box bk6 (bys (polyF lk lx)) 31, .box bk53 (u64s (rF lk)) 52]) rfl ?_
     intro ac5887 wo5888  En5889 Hv5890
     refine from_end (by kernel_rfl) ?_
     refine then_normal ?_
     refine wp_ret ?_
     refine d_cell1 (v := .agg (List.toArray (bys (polyF lk lx)))) (t := 4) (T := 31) (ad := ⟨bk6, 0, none⟩) En5889 (by kernel_rfl) (by kernel_rfl) (Ev.cellAgg (t := 31) (k := 4) (off := 0) (m := 16) (xs := bys (polyF lk lx)) Hv5890 rfl (load_whole (bys_lenh (polyF_len lk lx))) (bys_lenh (polyF_len lk lx)) (by kernel_rfl) (by kernel_rfl)) ?_
     exact ⟨rfl, Hv5890.pick [] (by kernel_rfl) (by decide)⟩

end Go.Proofs.Ytnahplggflhdaaa
