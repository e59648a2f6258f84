/- Layer 9: the code of a text, by the document: the plain law. -/
import Derived.Test.YtnahplggflhdaaaP5
namespace Go.Proofs.Ytnahplggflhdaaa
open Go.Dbr
set_option maxRecDepth 100000
set_option maxHeartbeats 2000000
set_option linter.unusedVariables false
set_option linter.unusedSimpArgs false

theorem dv_lt {B : Nat} (hB : 0 < B) : ∀ (l : List UInt64), (∀ j, (List.getD l j 0).toNat < B) → dv B l < B ^ l.length
  | [], _ => by simp [dv]
  | x :: r, h => by
    have ih := dv_lt hB r (fun k => by have := h (k + 1); rwa [List.getD_cons_succ] at this)
    have h0 : x.toNat < B := h 0
    rw [dv_cons, List.length_cons, Nat.pow_succ, Nat.mul_comm _ B]
    have := Nat.mul_le_mul_left B (Nat.succ_le_of_lt ih)
    rw [Nat.mul_succ] at this
    omega
-- ended
def e5F (v : List UInt64) : Nat → List UInt64 × UInt64
  | 0 => (List.replicate 9 0, 5)
  | i + 1 => (List.set (e5F v i).1 i ((List.getD v i 0 + (e5F v i).2) &&& 65535), (List.getD v i 0 + (e5F v i).2) >>> UInt64.ofNat 16)
theorem e5F_len (v : List UInt64) (i : Nat) : (e5F v i).1.length = 9 := by
  induction i with
  | zero => rfl
  | succ i ih => simp [e5F, ih]
theorem e5F_val {v : List UInt64} (hl : v.length = 9) (hd : ∀ j, (List.getD v j 0).toNat < 65536) : ∀ i, i ≤ 9 →
    dv B16 (e5F v i).1 + (e5F v i).2.toNat * B16 ^ i = dv B16 (List.take i v) + 5 ∧ (e5F v i).2.toNat ≤ 5 ∧ (∀ j, i ≤ j → List.getD (e5F v i).1 j 0 = 0) ∧ ∀ j, (List.getD (e5F v i).1 j 0).toNat < 65536
  | 0, _ => ⟨by show dv B16 (List.replicate 9 0) + (5 : UInt64).toNat * B16 ^ 0 = _; rw [dv_replicate]; simp [dv], by show (5 : UInt64).toNat ≤ 5; decide, fun j _ => getD_replicate _ _ _, fun j => by show (List.getD (List.replicate 9 (0 : UInt64)) j 0).toNat < _; rw [getD_replicate]; decide⟩
  | i + 1, h => by
    obtain ⟨h1, h2, h3, h4⟩ := e5F_val hl hd i (by omega)
    have hi := hd i
    have ht : (List.getD v i 0 + (e5F v i).2).toNat = (List.getD v i 0).toNat + (e5F v i).2.toNat := by rw [UInt64.toNat_add]; exact Nat.mod_eq_of_lt (by omega)
    have hc : ((List.getD v i 0 + (e5F v i).2) >>> UInt64.ofNat 16).toNat = ((List.getD v i 0).toNat + (e5F v i).2.toNat) / 65536 := by rw [shrN _ (by decide), ht]
    have hy : ((List.getD v i 0 + (e5F v i).2) &&& 65535).toNat = ((List.getD v i 0).toNat + (e5F v i).2.toNat) % 65536 := by rw [and16, ht]
    refine ⟨?_, ?_, fun j hj => ?_, fun j => ?_⟩
    · show dv B16 (List.set (e5F v i).1 i _) + ((List.getD v i 0 + (e5F v i).2) >>> UInt64.ofNat 16).toNat * B16 ^ (i + 1) = _
      have d := dv_set B16 ((List.getD v i 0 + (e5F v i).2) &&& 65535) (e5F v i).1 i (by rw [e5F_len]; omega)
      have hz : (0 : UInt64).toNat = 0 := rfl
      rw [h3 i (Nat.le_refl _), hz, Nat.zero_mul, Nat.add_zero, hy] at d
      rw [d, hc, dv_take (by omega), Nat.pow_succ]
      have e : ((List.getD v i 0).toNat + (e5F v i).2.toNat) * B16 ^ i = ((List.getD v i 0).toNat + (e5F v i).2.toNat) % 65536 * B16 ^ i + ((List.getD v i 0).toNat + (e5F v i).2.toNat) / 65536 * (B16 ^ i * B16) := by
        generalize (List.getD v i 0).toNat + (e5F v i).2.toNat = s
        generalize B16 ^ i = Q
        have e1 : s / 65536 * (Q * B16) = B16 * (s / 65536) * Q := by ac_rfl
        rw [e1, ← Nat.add_mul]
        congr 1
        exact (Nat.mod_add_div s 65536).symm
      rw [Nat.add_mul] at e
      omega
    · show ((List.getD v i 0 + (e5F v i).2) >>> UInt64.ofNat 16).toNat ≤ 5
      rw [hc]; omega
    · show List.getD (List.set (e5F v i).1 i _) j 0 = 0
      rw [getD_set, if_neg (by omega)]
      exact h3 j (by omega)
    · show (List.getD (List.set (e5F v i).1 i _) j 0).toNat < _
      rw [getD_set]
      split
      · rw [hy]; omega
      · exact h4 j
theorem sub4 {x : UInt64} (h : 4 ≤ x.toNat) : (x - 4).toNat = x.toNat - 4 := by
  have e : (4 : UInt64).toNat = 4 := rfl
  rw [UInt64.toNat_sub_of_le _ _ (by rw [UInt64.le_iff_toNat_le, e]; exact h), e]
theorem split8 {b : List UInt64} (hn : b.length = 9) (h4 : ∀ j, (List.getD b j 0).toNat < 65536) : dv B16 b = dv B16 (List.take 8 b) + (List.getD b 8 0).toNat * 340282366920938463463374607431768211456 ∧ dv B16 (List.take 8 b) < 340282366920938463463374607431768211456 := by
  match b, hn with
  | [a0, a1, a2, a3, a4, a5, a6, a7, a8], _ =>
    have d0 : a0.toNat < 65536 := h4 0
    have d1 : a1.toNat < 65536 := h4 1
    have d2 : a2.toNat < 65536 := h4 2
    have d3 : a3.toNat < 65536 := h4 3
    have d4 : a4.toNat < 65536 := h4 4
    have d5 : a5.toNat < 65536 := h4 5
    have d6 : a6.toNat < 65536 := h4 6
    have d7 : a7.toNat < 65536 := h4 7
    simp only [List.take, dv_cons, dv_nil, List.getD, List.getElem?_cons_zero, List.getElem?_cons_succ, Option.getD_some, Nat.mul_zero, Nat.add_zero]
    simp only [B16]
    clear h4
    omega
theorem ended_set {b : List UInt64} (hn : b.length = 9) (h4 : ∀ j, (List.getD b j 0).toNat < 65536) (h84 : 4 ≤ (List.getD b 8 0).toNat) : dv B16 (List.set b 8 (List.getD b 8 0 - 4)) + 1361129467683753853853498429727072845824 = dv B16 b ∧ ∀ j, (List.getD (List.set b 8 (List.getD b 8 0 - 4)) j 0).toNat < 65536 := by
  have hs := sub4 h84
  have d := dv_set B16 (List.getD b 8 0 - 4) b 8 (by omega)
  rw [hs, show B16 ^ 8 = 340282366920938463463374607431768211456 from rfl] at d
  refine ⟨?_, fun j => ?_⟩
  · generalize (List.getD b 8 0).toNat = x at *
    generalize dv B16 (List.set b 8 (List.getD b 8 0 - 4)) = y at *
    clear h4
    omega
  · rw [getD_set]
    split
    · rw [hs]; have := h4 8; omega
    · exact h4 j
theorem ended_val {v : List UInt64} (hl : v.length = 9) (hd : ∀ j, (List.getD v j 0).toNat < 65536) (hv : dv B16 v < 4 * 1361129467683753853853498429727072845819) :
    (e5F v 9).2.toNat = 0 ∧ ((List.getD (e5F v 9).1 8 0).toNat < 4 ↔ dv B16 v < 1361129467683753853853498429727072845819) ∧ (1361129467683753853853498429727072845819 ≤ dv B16 v → dv B16 (List.set (e5F v 9).1 8 (List.getD (e5F v 9).1 8 0 - 4)) + 1361129467683753853853498429727072845819 = dv B16 v ∧ ∀ j, (List.getD (List.set (e5F v 9).1 8 (List.getD (e5F v 9).1 8 0 - 4)) j 0).toNat < 65536) := by
  have h := e5F_val hl hd 9 (Nat.le_refl _)
  have hn := e5F_len v 9
  generalize (e5F v 9).2 = cy at *
  generalize (e5F v 9).1 = b at *
  obtain ⟨h1, h2, h3, h4⟩ := h
  rw [List.take_of_length_le (by omega), show B16 ^ 9 = 22300745198530623141535718272648361505980416 from rfl] at h1
  have hs := split8 hn h4
  refine ⟨by omega, by omega, fun hp => ?_⟩
  obtain ⟨g1, g2⟩ := ended_set hn h4 (by omega)
  exact ⟨by omega, g2⟩
-- the key
def clampB (key : List UInt8) (i : Nat) : UInt8 := if i % 4 = 0 ∧ 0 < i then (if i % 4 = 3 then List.getD key i 0 &&& 15 else List.getD key i 0) &&& 252 else (if i % 4 = 3 then List.getD key i 0 &&& 15 else List.getD key i 0)
def rDF (key : List UInt8) : Nat → List UInt64
  | 0 => List.replicate 8 0
  | i + 1 => List.set (rDF key i) (i / 2) (List.getD (rDF key i) (i / 2) 0 ||| (UInt8.toUInt64 (clampB key i) <<< UInt64.ofNat (8 * (i % 2))))
theorem rDF_len (key : List UInt8) (i : Nat) : (rDF key i).length = 8 := by
  induction i with
  | zero => rfl
  | succ i ih => simp [rDF, ih]
def twoB (x y : UInt8) : UInt64 := ((0 : UInt64) ||| (UInt8.toUInt64 x <<< UInt64.ofNat 0)) ||| (UInt8.toUInt64 y <<< UInt64.ofNat 8)
theorem twoB_val (x y : UInt8) : (twoB x y).toNat = x.toNat + 256 * y.toNat := by
  have hx := x.toNat_lt
  have hy := y.toNat_lt
  have h1 : (UInt8.toUInt64 x <<< UInt64.ofNat 0).toNat = x.toNat := by
    rw [UInt64.toNat_shiftLeft, UInt8.toNat_toUInt64]
    show x.toNat <<< (0 % 64) % 2 ^ 64 = _
    rw [Nat.shiftLeft_eq]
    show x.toNat * 1 % 18446744073709551616 = _
    omega
  have h2 : (UInt8.toUInt64 y <<< UInt64.ofNat 8).toNat = y.toNat <<< 8 := by
    rw [UInt64.toNat_shiftLeft, UInt8.toNat_toUInt64]
    show y.toNat <<< (8 % 64) % 2 ^ 64 = _
    rw [Nat.shiftLeft_eq]
    show y.toNat * 256 % 18446744073709551616 = y.toNat * 256
    omega
  unfold twoB
  rw [UInt64.toNat_or, UInt64.toNat_or, h1, h2, show (0 : UInt64).toNat = 0 from rfl, Nat.zero_or, Nat.or_comm, ← Nat.shiftLeft_add_eq_or_of_lt (show x.toNat < 2 ^ 8 from hx), Nat.shiftLeft_eq]
  omega
theorem rDF_eq (key : List UInt8) : rDF key 16 = [twoB (clampB key 0) (clampB key 1), twoB (clampB key 2) (clampB key 3), twoB (clampB key 4) (clampB key 5), twoB (clampB key 6) (clampB key 7), twoB (clampB key 8) (clampB key 9), twoB (clampB key 10) (clampB key 11), twoB (clampB key 12) (clampB key 13), twoB (clampB key 14) (clampB key 15)] := by
  simp only [rDF, List.replicate, List.set_cons_zero, List.set_cons_succ, List.getD, List.getElem?_cons_zero, List.getElem?_cons_succ, Option.getD_some, Nat.reduceDiv, Nat.reduceMod, Nat.reduceMul, twoB]
theorem and_byte {lo hi ml mh : Nat} (h1 : lo < 256) (h2 : ml < 256) : (lo + 256 * hi) &&& (ml + 256 * mh) = (lo &&& ml) + 256 * (hi &&& mh) := by
  have e1 : ((lo + 256 * hi) &&& (ml + 256 * mh)) % 2 ^ 8 = lo &&& ml := by
    rw [Nat.and_mod_two_pow, show (lo + 256 * hi) % 2 ^ 8 = lo by omega, show (ml + 256 * mh) % 2 ^ 8 = ml by omega]
  have e2 : ((lo + 256 * hi) &&& (ml + 256 * mh)) / 2 ^ 8 = hi &&& mh := by
    rw [Nat.and_div_two_pow, show (lo + 256 * hi) / 2 ^ 8 = hi by omega, show (ml + 256 * mh) / 2 ^ 8 = mh by omega]
  omega
theorem and_255 {x : Nat} (h : x < 256) : x &&& 255 = x := by
  rw [show (255 : Nat) = 2 ^ 8 - 1 from rfl, Nat.and_two_pow_sub_one_eq_mod]
  exact Nat.mod_eq_of_lt h
theorem two_val {key : List UInt8} (hk : key.length = 32) {i : Nat} (hi : i + 1 < 8) : (twoF (wordsF key) i).toNat = (List.getD key (4 * i) 0).toNat + 256 * ((List.getD key (4 * i + 1) 0).toNat + 256 * ((List.getD key (4 * i + 2) 0).toNat + 256 * ((List.getD key (4 * i + 3) 0).toNat + 256 * ((List.getD key (4 * i + 4) 0).toNat + 256 * ((List.getD key (4 * i + 5) 0).toNat + 256 * ((List.getD key (4 * i + 6) 0).toNat + 256 * (List.getD key (4 * i + 7) 0).toNat)))))) := by
  unfold twoF
  rw [or_word, words_get (by omega), words_get (by omega), partW_val, partW_val]
  rw [show 4 * (i + 1) = 4 * i + 4 by omega]
  simp only [Nat.add_assoc, Nat.reduceAdd]
  omega
theorem clamp_eq (key : List UInt8) : (clampB key 0 = List.getD key 0 0 ∧ clampB key 1 = List.getD key 1 0 ∧ clampB key 2 = List.getD key 2 0 ∧ clampB key 3 = List.getD key 3 0 &&& 15 ∧ clampB key 4 = List.getD key 4 0 &&& 252 ∧ clampB key 5 = List.getD key 5 0 ∧ clampB key 6 = List.getD key 6 0 ∧ clampB key 7 = List.getD key 7 0 &&& 15) ∧
    (clampB key 8 = List.getD key 8 0 &&& 252 ∧ clampB key 9 = List.getD key 9 0 ∧ clampB key 10 = List.getD key 10 0 ∧ clampB key 11 = List.getD key 11 0 &&& 15 ∧ clampB key 12 = List.getD key 12 0 &&& 252 ∧ clampB key 13 = List.getD key 13 0 ∧ clampB key 14 = List.getD key 14 0 ∧ clampB key 15 = List.getD key 15 0 &&& 15) :=
  ⟨⟨rfl, rfl, rfl, rfl, rfl, rfl, rfl, rfl⟩, rfl, rfl, rfl, rfl, rfl, rfl, rfl, rfl⟩
theorem mask_val {b0 b1 b2 b3 b4 b5 b6 b7 m0 : Nat} (h0 : b0 < 256) (h1 : b1 < 256) (h2 : b2 < 256) (h3 : b3 < 256) (h4 : b4 < 256) (h5 : b5 < 256) (h6 : b6 < 256) (hm : m0 < 256) :
    (b0 + 256 * (b1 + 256 * (b2 + 256 * (b3 + 256 * (b4 + 256 * (b5 + 256 * (b6 + 256 * b7))))))) &&& (m0 + 256 * (255 + 256 * (255 + 256 * (15 + 256 * (252 + 256 * (255 + 256 * (255 + 256 * 15))))))) = (b0 &&& m0) + 256 * (b1 + 256 * (b2 + 256 * ((b3 &&& 15) + 256 * ((b4 &&& 252) + 256 * (b5 + 256 * (b6 + 256 * (b7 &&& 15))))))) := by
  rw [and_byte h0 hm, and_byte h1 (by decide), and_byte h2 (by decide), and_byte h3 (by decide), and_byte h4 (by decide), and_byte h5 (by decide), and_byte h6 (by decide), and_255 h1, and_255 h2, and_255 h5, and_255 h6]
theorem fold16 (c0 c1 c2 c3 c4 c5 c6 c7 c8 c9 c10 c11 c12 c13 c14 c15 : Nat) : c0 + 256 * c1 + 65536 * (c2 + 256 * c3 + 65536 * (c4 + 256 * c5 + 65536 * (c6 + 256 * c7 + 65536 * (c8 + 256 * c9 + 65536 * (c10 + 256 * c11 + 65536 * (c12 + 256 * c13 + 65536 * (c14 + 256 * c15 + 65536 * 0))))))) = (c0 + 256 * (c1 + 256 * (c2 + 256 * (c3 + 256 * (c4 + 256 * (c5 + 256 * (c6 + 256 * c7))))))) + B64 * ((c8 + 256 * (c9 + 256 * (c10 + 256 * (c11 + 256 * (c12 + 256 * (c13 + 256 * (c14 + 256 * c15))))))) + B64 * 0) := by
  simp only [B64]
  omega
theorem rD_val {key : List UInt8} (hk : key.length = 32) : dv B16 (rDF key 16) = dv B64 (rF key) ∧ ∀ j, (List.getD (rDF key 16) j 0).toNat < 65536 := by
  have lt : ∀ i, (List.getD key i 0).toNat < 256 := fun i => (List.getD key i 0).toNat_lt
  constructor
  · obtain ⟨⟨c0, c1, c2, c3, c4, c5, c6, c7⟩, c8, c9, c10, c11, c12, c13, c14, c15⟩ := clamp_eq key
    rw [rDF_eq, c0, c1, c2, c3, c4, c5, c6, c7, c8, c9, c10, c11, c12, c13, c14, c15]
    simp only [dv_cons, dv_nil, twoB_val, rF, UInt64.toNat_and, UInt8.toNat_and]
    have t0 := two_val hk (i := 0) (by decide)
    have t2 := two_val hk (i := 2) (by decide)
    simp only [Nat.reduceMul, Nat.reduceAdd, Nat.zero_add, Nat.mul_zero] at t0 t2
    rw [t0, t2]
    have m0 := mask_val (b7 := (List.getD key 7 0).toNat) (m0 := 255) (lt 0) (lt 1) (lt 2) (lt 3) (lt 4) (lt 5) (lt 6) (by decide)
    have m2 := mask_val (b7 := (List.getD key 15 0).toNat) (m0 := 252) (lt 8) (lt 9) (lt 10) (lt 11) (lt 12) (lt 13) (lt 14) (by decide)
    rw [and_255 (lt 0)] at m0
    rw [show (1152921487695413247 : UInt64).toNat = 255 + 256 * (255 + 256 * (255 + 256 * (15 + 256 * (252 + 256 * (255 + 256 * (255 + 256 * 15)))))) from rfl, show (1152921487695413244 : UInt64).toNat = 252 + 256 * (255 + 256 * (255 + 256 * (15 + 256 * (252 + 256 * (255 + 256 * (255 + 256 * 15)))))) from rfl, m0, m2]
    have e15 : (15 : UInt8).toNat = 15 := rfl
    have e252 : (252 : UInt8).toNat = 252 := rfl
    rw [e15, e252]
    exact fold16 _ _ _ _ _ _ _ _ _ _ _ _ _ _ _ _
  · intro j
    rw [rDF_eq]
    have tw : ∀ x y : UInt8, (twoB x y).toNat < 65536 := fun x y => by rw [twoB_val]; have := x.toNat_lt; have := y.toNat_lt; omega
    match j with
    | 0 => exact tw _ _
    | 1 => exact tw _ _
    | 2 => exact tw _ _
    | 3 => exact tw _ _
    | 4 => exact tw _ _
    | 5 => exact tw _ _
    | 6 => exact tw _ _
    | 7 => exact tw _ _
    | j + 8 => show (0 : UInt64).toNat < _; decide
-- a block of the text
def chunkF (a : List UInt64) (l : List UInt8) (f : Nat) : Nat → List UInt64
  | 0 => a
  | i + 1 => List.set (chunkF a l f i) (i / 2) (List.getD (chunkF a l f i) (i / 2) 0 + (UInt8.toUInt64 (List.getD l (f + i) 0) <<< UInt64.ofNat (8 * (i % 2))))
theorem chunkF_len {a : List UInt64} {m : Nat} (h : a.length = m) (l : List UInt8) (f i : Nat) : (chunkF a l f i).length = m := by
  induction i with
  | zero => exact h
  | succ i ih => simp [chunkF, ih]
theorem add_at {p : List UInt64} {x : UInt64} {i D : Nat} (hi : i / 2 < p.length) (hx : x.toNat < 256) (hd : ∀ j, (List.getD p j 0).toNat ≤ D) (hD : D < 281474976710656) :
    dv B16 (List.set p (i / 2) (List.getD p (i / 2) 0 + (x <<< UInt64.ofNat (8 * (i % 2))))) = dv B16 p + x.toNat * 256 ^ i ∧ ∀ j, (List.getD (List.set p (i / 2) (List.getD p (i / 2) 0 + (x <<< UInt64.ofNat (8 * (i % 2))))) j 0).toNat ≤ D + 65536 := by
  have hsh : (x <<< UInt64.ofNat (8 * (i % 2))).toNat = x.toNat * 256 ^ (i % 2) := by
    have h2 : i % 2 = 0 ∨ i % 2 = 1 := by omega
    rcases h2 with h | h <;> rw [h, UInt64.toNat_shiftLeft]
    · show x.toNat <<< (0 % 64) % 2 ^ 64 = _
      rw [Nat.shiftLeft_eq]
      show x.toNat * 1 % 18446744073709551616 = x.toNat * 1
      omega
    · show x.toNat <<< (8 % 64) % 2 ^ 64 = _
      rw [Nat.shiftLeft_eq]
      show x.toNat * 256 % 18446744073709551616 = x.toNat * 256
      omega
  have hle : x.toNat * 256 ^ (i % 2) ≤ 65536 := by
    have h2 : i % 2 = 0 ∨ i % 2 = 1 := by omega
    rcases h2 with h | h <;> rw [h]
    · omega
    · omega
  have h0 := hd (i / 2)
  have hv : (List.getD p (i / 2) 0 + (x <<< UInt64.ofNat (8 * (i % 2)))).toNat = (List.getD p (i / 2) 0).toNat + x.toNat * 256 ^ (i % 2) := by
    rw [UInt64.toNat_add, hsh]
    exact Nat.mod_eq_of_lt (by omega)
  have d := dv_set B16 (List.getD p (i / 2) 0 + (x <<< UInt64.ofNat (8 * (i % 2)))) p (i / 2) hi
  rw [hv, Nat.add_mul] at d
  have e : x.toNat * 256 ^ (i % 2) * B16 ^ (i / 2) = x.toNat * 256 ^ i := by
    rw [Nat.mul_assoc]
    congr 1
    rw [show B16 = 256 ^ 2 from rfl, ← Nat.pow_mul, ← Nat.pow_add]
    congr 1
    omega
  refine ⟨by omega, fun j => ?_⟩
  rw [getD_set]
  split
  · rw [hv]; omega
  · exact Nat.le_trans (hd j) (by omega)
theorem leN_take : ∀ {r : List UInt8} {k : Nat}, k < r.length → leN (List.take (k + 1) r) = leN (List.take k r) + (List.getD r k 0).toNat * 256 ^ k
  | [], k, h => by simp at h
  | x :: r, 0, h => by simp [leN, List.getD]
  | x :: r, k + 1, h => by
    have ih := leN_take (r := r) (k := k) (by simpa using h)
    rw [List.take_succ_cons, leN, ih, List.take_succ_cons, leN, List.getD_cons_succ, Nat.pow_succ, Nat.mul_add, Nat.add_assoc]
    congr 2
    ac_rfl
theorem chunkF_val {a : List UInt64} {l : List UInt8} {f : Nat} (ha : a.length = 9) (hd : ∀ j, (List.getD a j 0).toNat < 65536) : ∀ i, i ≤ 16 → f + i ≤ l.length →
    dv B16 (chunkF a l f i) = dv B16 a + leN (List.take i (List.drop f l)) ∧ ∀ j, (List.getD (chunkF a l f i) j 0).toNat ≤ 65536 + i * 65536
  | 0, _, _ => ⟨by show dv B16 a = _; simp [leN], fun j => by have := hd j; show (List.getD a j 0).toNat ≤ _; omega⟩
  | i + 1, h, hl => by
    obtain ⟨h1, h2⟩ := chunkF_val (l := l) (f := f) ha hd i (by omega) (by omega)
    obtain ⟨g1, g2⟩ := add_at (p := chunkF a l f i) (x := UInt8.toUInt64 (List.getD l (f + i) 0)) (i := i) (D := 65536 + i * 65536) (by rw [chunkF_len ha]; omega) (by rw [UInt8.toNat_toUInt64]; exact UInt8.toNat_lt _) h2 (by omega)
    refine ⟨?_, fun j => ?_⟩
    · show dv B16 (List.set (chunkF a l f i) (i / 2) _) = _
      rw [g1, h1, leN_take (by rw [List.length_drop]; omega), UInt8.toNat_toUInt64, List.getD_eq_getElem?_getD (l := List.drop f l), List.getElem?_drop, ← List.getD_eq_getElem?_getD, Nat.add_assoc]
    · exact Nat.le_trans (g2 j) (by rw [Nat.succ_mul, Nat.add_assoc]; exact Nat.le_refl _)
def blockD (a : List UInt64) (l : List UInt8) (q n : Nat) : List UInt64 := List.set (chunkF a l (16 * q) n) (n / 2) (List.getD (chunkF a l (16 * q) n) (n / 2) 0 + ((1 : UInt64) <<< UInt64.ofNat (8 * (n % 2))))
theorem blockD_len {a : List UInt64} (h : a.length = 9) (l : List UInt8) (q n : Nat) : (blockD a l q n).length = 9 := by simp [blockD, chunkF_len h]
theorem blockD_val {a : List UInt64} {l : List UInt8} {q n : Nat} (ha : a.length = 9) (hd : ∀ j, (List.getD a j 0).toNat < 65536) (hq : 16 * q < l.length) (hn : n = min 16 (l.length - 16 * q)) :
    dv B16 (blockD a l q n) = dv B16 a + (leN (chunk l q) + 256 ^ (chunk l q).length) ∧ ∀ j, (List.getD (blockD a l q n) j 0).toNat < 2097152 := by
  obtain ⟨c1, c2⟩ := chunkF_val (l := l) (f := 16 * q) ha hd n (by omega) (by omega)
  obtain ⟨g1, g2⟩ := add_at (p := chunkF a l (16 * q) n) (x := 1) (i := n) (D := 65536 + n * 65536) (by rw [chunkF_len ha]; omega) (by decide) c2 (by omega)
  have hc : List.take n (List.drop (16 * q) l) = chunk l q := by
    unfold chunk
    subst hn
    by_cases h : 16 ≤ l.length - 16 * q
    · rw [Nat.min_eq_left h]
    · rw [Nat.min_eq_right (by omega), List.take_of_length_le (by rw [List.length_drop]; omega), List.take_of_length_le (by rw [List.length_drop]; omega)]
  have hlen : (chunk l q).length = n := by unfold chunk; rw [List.length_take, List.length_drop]; omega
  refine ⟨?_, fun j => Nat.lt_of_le_of_lt (g2 j) (by omega)⟩
  unfold blockD
  rw [g1, c1, hc, hlen, show (1 : UInt64).toNat = 1 from rfl, Nat.one_mul, Nat.add_assoc]
theorem mac_step16 {key l : List UInt8} {v : List UInt64} {q n : Nat} (hk : key.length = 32) (hv : v.length = 9) (hd : ∀ j, (List.getD v j 0).toNat < 65536) (hb : dv B16 v < 1361129467683753853853498429727072845824 + 10) (hm : dv B16 v % 1361129467683753853853498429727072845819 = macQ (dv B64 (rF key)) l q) (hq : 16 * q < l.length) (hn : n = min 16 (l.length - 16 * q)) :
    dv B16 (productF (blockD v l q n) (rDF key 16)) % 1361129467683753853853498429727072845819 = macQ (dv B64 (rF key)) l (q + 1) ∧ dv B16 (productF (blockD v l q n) (rDF key 16)) < 1361129467683753853853498429727072845824 + 10 ∧ ∀ j, (List.getD (productF (blockD v l q n) (rDF key 16)) j 0).toNat < 65536 := by
  obtain ⟨b1, b2⟩ := blockD_val hv hd hq hn
  obtain ⟨r1, r2⟩ := rD_val hk
  have h2 : leN (chunk l q) + 256 ^ (chunk l q).length < 2722258935367507707706996859454145691648 := by
    have hc := chunk_le l q
    have := leN_lt (chunk l q)
    have h3 : 256 ^ (chunk l q).length ≤ 256 ^ 16 := Nat.pow_le_pow_right (by decide) hc
    have h4 : (256 : Nat) ^ 16 = 340282366920938463463374607431768211456 := rfl
    omega
  obtain ⟨p1, p2, p3⟩ := product_val (a := blockD v l q n) (r := rDF key 16) (blockD_len hv l q n) (rDF_len key 16) b2 r2 (by omega) (by rw [r1]; exact rF_lt key)
  rw [r1] at p1
  exact ⟨mac_next hm b1 p1, p2, p3⟩
-- the bytes
theorem leN_digit : ∀ (l : List UInt8) (j : Nat), leN l / 256 ^ j % 256 = (List.getD l j 0).toNat
  | [], j => by simp [leN, List.getD]
  | x :: r, 0 => by
    have := x.toNat_lt
    simp [leN, List.getD] <;> omega
  | x :: r, j + 1 => by
    have ih := leN_digit r j
    have h0 := x.toNat_lt
    rw [List.getD_cons_succ, ← ih, leN, Nat.pow_succ, Nat.mul_comm _ 256, ← Nat.div_div_eq_div_mul, Nat.add_mul_div_left _ _ (by decide)]
    rw [Nat.div_eq_of_lt (show x.toNat < 256 from h0), Nat.zero_add]
theorem dig_byte {v : List UInt64} {i : Nat} (hd : ∀ j, (List.getD v j 0).toNat < 65536) : ((List.getD v (i / 2) 0 >>> UInt64.ofNat (8 * (i % 2))) &&& 255).toNat = dv B16 v / 256 ^ i % 256 := by
  rw [and255, shrN _ (by omega), ← dv_digit (B := B16) (by decide) v (i / 2) hd]
  have e : 256 ^ i = B16 ^ (i / 2) * 256 ^ (i % 2) := by
    rw [show B16 = 256 ^ 2 from rfl, ← Nat.pow_mul, ← Nat.pow_add]
    congr 1
    omega
  rw [e, ← Nat.div_div_eq_div_mul]
  generalize dv B16 v / B16 ^ (i / 2) = z
  have h2 : i % 2 = 0 ∨ i % 2 = 1 := by omega
  simp only [B16]
  rcases h2 with h | h <;> rw [h]
  · show z % 65536 / 1 % 256 = z / 1 % 256
    omega
  · show z % 65536 / 256 % 256 = z / 256 % 256
    omega
/-- a byte of a sum -/
theorem sum_byte {A S : Nat} {i : Nat} {x y c : UInt64} (hx : x.toNat = A / 256 ^ i % 256) (hy : y.toNat = S / 256 ^ i % 256) (hc : (A + S) / 256 ^ i = A / 256 ^ i + S / 256 ^ i + c.toNat) (hc1 : c.toNat ≤ 1) :
    UInt64.toUInt8 (x + y + c) = UInt8.ofNat ((A + S) / 256 ^ i) ∧ (A + S) / 256 ^ (i + 1) = A / 256 ^ (i + 1) + S / 256 ^ (i + 1) + ((x + y + c) >>> UInt64.ofNat 8).toNat ∧ ((x + y + c) >>> UInt64.ofNat 8).toNat ≤ 1 := by
  have ht : (x + y + c).toNat = x.toNat + y.toNat + c.toNat := by
    rw [UInt64.toNat_add, UInt64.toNat_add]
    omega
  rw [shrN _ (by decide), ht]
  simp only [Nat.pow_succ, ← Nat.div_div_eq_div_mul]
  refine ⟨?_, ?_, ?_⟩
  · apply UInt8.toNat_inj.1
    rw [UInt64.toNat_toUInt8, ht, UInt8.toNat_ofNat', hc, hx, hy]
    omega
  · rw [hc, hx, hy]
    omega
  · rw [hx, hy]
    omega
theorem key_add {key : List UInt8} (hk : key.length = 32) : leN (List.drop 16 key) = (twoF (wordsF key) 4).toNat + B64 * (twoF (wordsF key) 6).toNat := by
  have a0 := leN_four (l := key) (i := 16) (by omega)
  have a1 := leN_four (l := key) (i := 20) (by omega)
  have a2 := leN_four (l := key) (i := 24) (by omega)
  have a3 := leN_four (l := key) (i := 28) (by omega)
  have a6 : leN (List.drop (28 + 4) key) = 0 := by rw [List.drop_eq_nil_of_le (by omega)]; rfl
  have w : ∀ i, i < 8 → (List.getD (wordsF key) i 0).toNat = leN (List.take 4 (List.drop (4 * i) key)) := fun i hi => by rw [words_get (by omega), partW_leN (by omega)]
  unfold twoF
  rw [or_word, or_word, w 4 (by decide), w (4 + 1) (by decide), w 6 (by decide), w (6 + 1) (by decide)]
  rw [a0, a1, a2, a3, a6]
  simp only [Nat.reduceMul, Nat.reduceAdd, Nat.mul_zero, Nat.add_zero, B64]
  omega
theorem drop_byte {key : List UInt8} {i : Nat} : leN (List.drop 16 key) / 256 ^ i % 256 = (List.getD key (16 + i) 0).toNat := by
  rw [leN_digit, List.getD_eq_getElem?_getD, List.getElem?_drop, ← List.getD_eq_getElem?_getD]

end Go.Proofs.Ytnahplggflhdaaa
