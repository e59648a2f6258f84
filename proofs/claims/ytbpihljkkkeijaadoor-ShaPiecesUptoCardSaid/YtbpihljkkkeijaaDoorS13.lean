/- Layer 5: both sums are the same: the plain law. -/
import Derived.Test.YtbpihljkkkeijaaDoorS12
namespace Go.Proofs.YtbpihljkkkeijaaDoor
open Go.Dbr
set_option maxRecDepth 100000
set_option maxHeartbeats 2000000
set_option linter.unusedVariables false
set_option linter.unusedSimpArgs false

theorem ch32 (e f g : UInt32) : (e &&& f) ^^^ (((4294967295 : UInt32) ^^^ e) &&& g) = g ^^^ (e &&& (f ^^^ g)) := by
  apply UInt32.eq_of_toBitVec_eq
  apply BitVec.eq_of_getLsbD_eq
  intro i hi
  have hm : (4294967295 : UInt32).toBitVec.getLsbD i = true := by
    show (BitVec.allOnes 32).getLsbD i = true
    rw [BitVec.getLsbD_allOnes]
    exact decide_eq_true hi
  simp only [UInt32.toBitVec_xor, UInt32.toBitVec_and, BitVec.getLsbD_xor, BitVec.getLsbD_and, hm]
  cases e.toBitVec.getLsbD i <;> cases f.toBitVec.getLsbD i <;> cases g.toBitVec.getLsbD i <;> rfl
theorem maj32 (x y z : UInt32) : ((x &&& y) ^^^ (x &&& z)) ^^^ (y &&& z) = (x &&& y) ||| (z &&& (x ||| y)) := by
  apply UInt32.eq_of_toBitVec_eq
  apply BitVec.eq_of_getLsbD_eq
  intro i hi
  simp only [UInt32.toBitVec_xor, UInt32.toBitVec_and, UInt32.toBitVec_or, BitVec.getLsbD_xor, BitVec.getLsbD_and, BitVec.getLsbD_or]
  cases x.toBitVec.getLsbD i <;> cases y.toBitVec.getLsbD i <;> cases z.toBitVec.getLsbD i <;> rfl
theorem rst32_eq (v : List UInt32) (k w : UInt32) : rst32 v k w = step32 v k w := by
  unfold rst32 step32 rx32 ry32 x32 y32
  rw [ch32, maj32]
theorem rr32_eq (W v : List UInt32) (j : Nat) : rr32 W v j = rnd32 W v j := by
  induction j with
  | zero => rfl
  | succ j ih => rw [rr32, rnd32, ih, rst32_eq]
theorem getD_left32 {a c : List UInt32} {i : Nat} (h : i < a.length) : List.getD (a ++ c) i 0 = List.getD a i 0 := by
  rw [List.getD_eq_getElem?_getD, List.getD_eq_getElem?_getD, List.getElem?_append_left h]
theorem rsF32_eq {w : List UInt32} (hw : w.length = 16) : ∀ q, q ≤ 48 → rsF32 (w ++ List.replicate 48 0) q = sch32 w q ++ List.replicate (48 - q) 0
  | 0, _ => rfl
  | q + 1, h => by
    have hl : (sch32 w q).length = 16 + q := by rw [sch32_len, hw]
    rw [rsF32, rsF32_eq hw q (by omega), sch32, getD_left32 (by omega), getD_left32 (by omega), getD_left32 (by omega), getD_left32 (by omega)]
    rw [List.set_append_right _ _ (by omega), hl, Nat.sub_self, show 48 - q = (48 - (q + 1)) + 1 by omega, List.replicate_succ, List.set_cons_zero, List.append_assoc]
    rfl

theorem ch64 (e f g : UInt64) : (e &&& f) ^^^ (((18446744073709551615 : UInt64) ^^^ e) &&& g) = g ^^^ (e &&& (f ^^^ g)) := by
  apply UInt64.eq_of_toBitVec_eq
  apply BitVec.eq_of_getLsbD_eq
  intro i hi
  have hm : (18446744073709551615 : UInt64).toBitVec.getLsbD i = true := by
    show (BitVec.allOnes 64).getLsbD i = true
    rw [BitVec.getLsbD_allOnes]
    exact decide_eq_true hi
  simp only [UInt64.toBitVec_xor, UInt64.toBitVec_and, BitVec.getLsbD_xor, BitVec.getLsbD_and, hm]
  cases e.toBitVec.getLsbD i <;> cases f.toBitVec.getLsbD i <;> cases g.toBitVec.getLsbD i <;> rfl
theorem maj64 (x y z : UInt64) : ((x &&& y) ^^^ (x &&& z)) ^^^ (y &&& z) = (x &&& y) ||| (z &&& (x ||| y)) := by
  apply UInt64.eq_of_toBitVec_eq
  apply BitVec.eq_of_getLsbD_eq
  intro i hi
  simp only [UInt64.toBitVec_xor, UInt64.toBitVec_and, UInt64.toBitVec_or, BitVec.getLsbD_xor, BitVec.getLsbD_and, BitVec.getLsbD_or]
  cases x.toBitVec.getLsbD i <;> cases y.toBitVec.getLsbD i <;> cases z.toBitVec.getLsbD i <;> rfl
theorem rst64_eq (v : List UInt64) (k w : UInt64) : rst64 v k w = step64 v k w := by
  unfold rst64 step64 rx64 ry64 x64 y64
  rw [ch64, maj64]
theorem rr64_eq (W v : List UInt64) (j : Nat) : rr64 W v j = rnd64 W v j := by
  induction j with
  | zero => rfl
  | succ j ih => rw [rr64, rnd64, ih, rst64_eq]
theorem getD_left64 {a c : List UInt64} {i : Nat} (h : i < a.length) : List.getD (a ++ c) i 0 = List.getD a i 0 := by
  rw [List.getD_eq_getElem?_getD, List.getD_eq_getElem?_getD, List.getElem?_append_left h]
theorem rsF64_eq {w : List UInt64} (hw : w.length = 16) : ∀ q, q ≤ 64 → rsF64 (w ++ List.replicate 64 0) q = sch64 w q ++ List.replicate (64 - q) 0
  | 0, _ => rfl
  | q + 1, h => by
    have hl : (sch64 w q).length = 16 + q := by rw [sch64_len, hw]
    rw [rsF64, rsF64_eq hw q (by omega), sch64, getD_left64 (by omega), getD_left64 (by omega), getD_left64 (by omega), getD_left64 (by omega)]
    rw [List.set_append_right _ _ (by omega), hl, Nat.sub_self, show 64 - q = (64 - (q + 1)) + 1 by omega, List.replicate_succ, List.set_cons_zero, List.append_assoc]
    rfl

theorem shl_or32 {x : UInt32} {c : UInt8} (h : x.toNat < 16777216) : ((x <<< UInt32.ofNat 8) ||| UInt8.toUInt32 c).toNat = 256 * x.toNat + c.toNat := by
  have hc := c.toNat_lt
  rw [UInt32.toNat_or, UInt32.toNat_shiftLeft, UInt8.toNat_toUInt32]
  show (x.toNat <<< (8 % 32) % 2 ^ 32) ||| c.toNat = _
  have e : x.toNat <<< (8 % 32) % 2 ^ 32 = x.toNat <<< 8 := by
    rw [Nat.shiftLeft_eq]
    show x.toNat * 256 % 4294967296 = x.toNat * 256
    omega
  rw [e, ← Nat.shiftLeft_add_eq_or_of_lt (show c.toNat < 2 ^ 8 from hc), Nat.shiftLeft_eq]
  omega
theorem shl_byte {c : UInt8} {k : Nat} (hk : k ≤ 24) : (UInt8.toUInt32 c <<< UInt32.ofNat k).toNat = c.toNat <<< k := by
  have hc := c.toNat_lt
  rw [UInt32.toNat_shiftLeft, UInt8.toNat_toUInt32, UInt32.toNat_ofNat']
  rw [show k % 2 ^ 32 % 32 = k by omega]
  apply Nat.mod_eq_of_lt
  rw [Nat.shiftLeft_eq]
  have h3 : 2 ^ k ≤ 2 ^ 24 := Nat.pow_le_pow_right (by decide) hk
  have h4 : c.toNat * 2 ^ k ≤ 255 * 2 ^ 24 := Nat.mul_le_mul (by omega) h3
  omega
theorem word32 (c0 c1 c2 c3 : UInt8) : ((UInt8.toUInt32 c0 <<< UInt32.ofNat 24 ||| UInt8.toUInt32 c1 <<< UInt32.ofNat 16) ||| UInt8.toUInt32 c2 <<< UInt32.ofNat 8) ||| UInt8.toUInt32 c3 = ((((((((0 : UInt32) <<< UInt32.ofNat 8) ||| UInt8.toUInt32 c0) <<< UInt32.ofNat 8) ||| UInt8.toUInt32 c1) <<< UInt32.ofNat 8) ||| UInt8.toUInt32 c2) <<< UInt32.ofNat 8) ||| UInt8.toUInt32 c3 := by
  apply UInt32.toNat_inj.1
  have h0 := c0.toNat_lt
  have h1 := c1.toNat_lt
  have h2 := c2.toNat_lt
  have h3 := c3.toNat_lt
  have e0 : (((0 : UInt32) <<< UInt32.ofNat 8) ||| UInt8.toUInt32 c0).toNat = c0.toNat := by rw [shl_or32 (by decide)]; show 256 * 0 + _ = _; omega
  have e1 := shl_or32 (x := ((0 : UInt32) <<< UInt32.ofNat 8) ||| UInt8.toUInt32 c0) (c := c1) (by rw [e0]; omega)
  rw [e0] at e1
  have e2 := shl_or32 (x := (((0 : UInt32) <<< UInt32.ofNat 8) ||| UInt8.toUInt32 c0) <<< UInt32.ofNat 8 ||| UInt8.toUInt32 c1) (c := c2) (by rw [e1]; omega)
  rw [e1] at e2
  have e3 := shl_or32 (x := ((((0 : UInt32) <<< UInt32.ofNat 8) ||| UInt8.toUInt32 c0) <<< UInt32.ofNat 8 ||| UInt8.toUInt32 c1) <<< UInt32.ofNat 8 ||| UInt8.toUInt32 c2) (c := c3) (by rw [e2]; omega)
  rw [e2] at e3
  rw [e3, UInt32.toNat_or, UInt32.toNat_or, UInt32.toNat_or, shl_byte (by decide), shl_byte (by decide), shl_byte (by decide), UInt8.toNat_toUInt32]
  rw [← Nat.shiftLeft_add_eq_or_of_lt (show c1.toNat <<< 16 < 2 ^ 24 by rw [Nat.shiftLeft_eq]; omega)]
  have g1 : c0.toNat <<< 24 + c1.toNat <<< 16 = (c0.toNat * 256 + c1.toNat) <<< 16 := by simp only [Nat.shiftLeft_eq]; omega
  rw [g1, ← Nat.shiftLeft_add_eq_or_of_lt (show c2.toNat <<< 8 < 2 ^ 16 by rw [Nat.shiftLeft_eq]; omega)]
  have g2 : (c0.toNat * 256 + c1.toNat) <<< 16 + c2.toNat <<< 8 = ((c0.toNat * 256 + c1.toNat) * 256 + c2.toNat) <<< 8 := by simp only [Nat.shiftLeft_eq]; omega
  rw [g2, ← Nat.shiftLeft_add_eq_or_of_lt (show c3.toNat < 2 ^ 8 from h3), Nat.shiftLeft_eq]
  omega
theorem getD_in {bl : List UInt8} {f m z t i : Nat} (h : z * t + i < m) (hi : i < z) : List.getD (List.take z (List.drop (z * t) (List.take m (List.drop f bl)))) i 0 = List.getD bl (f + z * t + i) 0 := by
  rw [List.getD_eq_getElem?_getD, List.getElem?_take, if_pos hi, List.getElem?_drop, List.getElem?_take, if_pos h, List.getElem?_drop, ← List.getD_eq_getElem?_getD, Nat.add_assoc]
theorem rw32_eq {bl : List UInt8} {f t : Nat} (ht : t < 16) : rw32 bl f t = beW32 (List.take 64 (List.drop f bl)) t := by
  unfold rw32 beW32
  simp only [beP32]
  rw [getD_in (by omega) (by decide), getD_in (by omega) (by decide), getD_in (by omega) (by decide), getD_in (by omega) (by decide)]
  exact word32 _ _ _ _
theorem rby64_eq {bl : List UInt8} {f t : Nat} (ht : t < 16) : ∀ i, i ≤ 8 → rby64 bl f t i = beP64 (List.take 8 (List.drop (8 * t) (List.take 128 (List.drop f bl)))) i
  | 0, _ => rfl
  | i + 1, h => by rw [rby64, beP64, rby64_eq ht i (by omega), getD_in (by omega) (by omega)]
theorem rwF32_eq {bl : List UInt8} {f : Nat} : ∀ t, t ≤ 16 → rwF32 bl f t = wB32 (List.take 64 (List.drop f bl)) t ++ List.replicate (64 - t) 0
  | 0, _ => rfl
  | t + 1, h => by
    rw [rwF32, rwF32_eq t (by omega), wB32, List.set_append_right _ _ (by rw [wB32_len]; exact Nat.le_refl _), wB32_len, Nat.sub_self, show 64 - t = (64 - (t + 1)) + 1 by omega, List.replicate_succ, List.set_cons_zero, rw32_eq (by omega), List.append_assoc]
    rfl
theorem rwI64_eq {V : List UInt64} {bl : List UInt8} {f t : Nat} (ht : t < V.length) (h0 : List.getD V t 0 = 0) : ∀ i, rwI64 V bl f t i = List.set V t (rby64 bl f t i)
  | 0 => by
    rw [rwI64, rby64, ← h0]
    simp [List.getD, ht]
  | i + 1 => by
    rw [rwI64, rwI64_eq ht h0 i, rby64, getD_set, if_pos ⟨rfl, ht⟩, List.set_set]
theorem rwF64_eq {bl : List UInt8} {f : Nat} : ∀ t, t ≤ 16 → rwF64 bl f t = wB64 (List.take 128 (List.drop f bl)) t ++ List.replicate (80 - t) 0
  | 0, _ => rfl
  | t + 1, h => by
    have hz : List.getD (wB64 (List.take 128 (List.drop f bl)) t ++ List.replicate (80 - t) 0) t 0 = 0 := by
      rw [List.getD_eq_getElem?_getD, List.getElem?_append_right (by rw [wB64_len]; exact Nat.le_refl _), List.getElem?_replicate]
      split <;> rfl
    rw [rwF64, rwF64_eq t (by omega), rwI64_eq (by rw [List.length_append, wB64_len, List.length_replicate]; omega) hz, wB64, List.set_append_right _ _ (by rw [wB64_len]; exact Nat.le_refl _), wB64_len, Nat.sub_self, show 80 - t = (80 - (t + 1)) + 1 by omega, List.replicate_succ, List.set_cons_zero, rby64_eq (by omega) 8 (Nat.le_refl _), List.append_assoc]
    rfl
theorem ro32_eq (s : List UInt32) (i : Nat) : ro32 s i = out32 s i := by
  have key : ∀ (x : UInt32) (k : Nat), k ≤ 24 → UInt64.toUInt8 (UInt32.toUInt64 x >>> UInt64.ofNat k) = UInt32.toUInt8 (x >>> UInt32.ofNat k) := fun x k hk => by
    apply UInt8.toNat_inj.1
    rw [UInt64.toNat_toUInt8, UInt32.toNat_toUInt8, UInt64.toNat_shiftRight, UInt32.toNat_shiftRight, UInt32.toNat_toUInt64, UInt64.toNat_ofNat', UInt32.toNat_ofNat']
    rw [show k % 2 ^ 64 % 64 = k by omega, show k % 2 ^ 32 % 32 = k by omega]
  have k0 : ∀ x : UInt32, UInt32.toUInt8 x = UInt32.toUInt8 (x >>> UInt32.ofNat 0) := fun x => by
    apply UInt8.toNat_inj.1
    rw [UInt32.toNat_toUInt8, UInt32.toNat_toUInt8, UInt32.toNat_shiftRight]
    rfl
  induction i with
  | zero => rfl
  | succ i ih =>
    rw [ro32, out32, ih, be4, key _ 24 (by decide), key _ 16 (by decide), key _ 8 (by decide), key _ 0 (by decide), k0]
    simp
theorem ro64_eq (s : List UInt64) (i : Nat) : ro64 s i = out64 s i := by
  induction i with
  | zero => rfl
  | succ i ih => rw [ro64, out64, ih]

theorem rfeed32_eq (s : List UInt32) (bl : List UInt8) (q : Nat) : rfeed32 s bl q = feed32 s bl q := by
  induction q with
  | zero => rfl
  | succ q ih =>
    rw [rfeed32, feed32, ih, rr32_eq, rwF32_eq 16 (Nat.le_refl _), rsF32_eq (wB32_len _ _) 48 (Nat.le_refl _), Nat.sub_self]
    unfold blk32
    rw [show List.replicate 0 (0 : UInt32) = [] from rfl, List.append_nil]

theorem rfeed64_eq (s : List UInt64) (bl : List UInt8) (q : Nat) : rfeed64 s bl q = feed64 s bl q := by
  induction q with
  | zero => rfl
  | succ q ih =>
    rw [rfeed64, feed64, ih, rr64_eq, rwF64_eq 16 (Nat.le_refl _), rsF64_eq (wB64_len _ _) 64 (Nat.le_refl _), Nat.sub_self]
    unfold blk64
    rw [show List.replicate 0 (0 : UInt64) = [] from rfl, List.append_nil]

theorem sum_same1 (al : List UInt8) : ro32 (rfeed32 init32 (al ++ padB 64 (al.length % 64) al.length) ((al ++ padB 64 (al.length % 64) al.length).length / 64)) 8 = sumF 1 al := by
  have hl : (out32 (S32 1 (al ++ padH 1 al)) 8).length = 32 := out32_len _ _
  unfold sumF
  rw [if_pos rfl, show sizeOfH 1 = 32 from rfl, List.take_of_length_le (by omega), ro32_eq, rfeed32_eq, pad_go1]
  unfold S32 st32
  rw [if_pos rfl]
theorem sum_same2 {h : Int} (hh : h = 2 ∨ h = 3) (al : List UInt8) : List.take (sizeOfH h) (ro64 (rfeed64 (init64 h) (al ++ padB 128 (al.length % 128) al.length) ((al ++ padB 128 (al.length % 128) al.length).length / 128)) 8) = sumF h al := by
  unfold sumF
  rw [if_neg (by omega), ro64_eq, rfeed64_eq, pad_go2 hh]
  unfold S64 st64
  rw [if_neg (by omega)]

end Go.Proofs.YtbpihljkkkeijaaDoor
