/- Layer 4: products modulo the prime of P-256. -/
import Derived.Test.YtpfhmbbiadpbeaaF10
import Derived.Test.YtpfhmbbiadpbeaaSsa
namespace Go.Proofs.Ytpfhmbbiadpbeaa
open Go.Dbr
set_option maxRecDepth 100000
set_option maxHeartbeats 2000000
set_option linter.unusedVariables false
set_option linter.unusedSimpArgs false

def Hid (p : Prop) : Prop := p
theorem conv_lo (x : UInt64) : IntKind.wrap .i64 ((UInt64.toNat (x &&& 4294967295) : Nat) : Int) = ((UInt64.toNat (x &&& 4294967295) : Nat) : Int) := by
  have := low32 x
  exact wr64 rfl (by omega) (by omega)
theorem conv_hi (x : UInt64) : IntKind.wrap .i64 ((UInt64.toNat (x >>> UInt64.ofNat 32) : Nat) : Int) = ((UInt64.toNat (x >>> UInt64.ofNat 32) : Nat) : Int) := by
  have := high32 x
  exact wr64 rfl (by omega) (by omega)
theorem w16 {T : List UInt64} (h : T.length = 8) : dv 18446744073709551616 T = (List.getD T 0 0 &&& 4294967295).toNat * 1 + (List.getD T 0 0 >>> UInt64.ofNat 32).toNat * 4294967296 + (List.getD T 1 0 &&& 4294967295).toNat * 18446744073709551616 + (List.getD T 1 0 >>> UInt64.ofNat 32).toNat * 79228162514264337593543950336 + (List.getD T 2 0 &&& 4294967295).toNat * 340282366920938463463374607431768211456 + (List.getD T 2 0 >>> UInt64.ofNat 32).toNat * 1461501637330902918203684832716283019655932542976 + (List.getD T 3 0 &&& 4294967295).toNat * 6277101735386680763835789423207666416102355444464034512896 + (List.getD T 3 0 >>> UInt64.ofNat 32).toNat * 26959946667150639794667015087019630673637144422540572481103610249216 + (List.getD T 4 0 &&& 4294967295).toNat * 115792089237316195423570985008687907853269984665640564039457584007913129639936 + (List.getD T 4 0 >>> UInt64.ofNat 32).toNat * 497323236409786642155382248146820840100456150797347717440463976893159497012533375533056 + (List.getD T 5 0 &&& 4294967295).toNat * 2135987035920910082395021706169552114602704522356652769947041607822219725780640550022962086936576 + (List.getD T 5 0 >>> UInt64.ofNat 32).toNat * 9173994463960286046443283581208347763186259956673124494950355357547691504353939232280074212440502746218496 + (List.getD T 6 0 &&& 4294967295).toNat * 39402006196394479212279040100143613805079739270465446667948293404245721771497210611414266254884915640806627990306816 + (List.getD T 6 0 >>> UInt64.ofNat 32).toNat * 169230328010303641331690318856389386196071598838855992136870091590247882556495704531248437872567112920983350278405979725889536 + (List.getD T 7 0 &&& 4294967295).toNat * 726838724295606890549323807888004534353641360687318060281490199180639288113397923326191050713763565560762521606266177933534601628614656 + (List.getD T 7 0 >>> UInt64.ofNat 32).toNat * 3121748550315992231381597229793166305748598142664971150859156959625371738819765620120306103063491971159826931121406622895447975679288285306290176 := by
  rw [← dvk8 h]
  have h0 := low_high (List.getD T 0 0)
  have h1 := low_high (List.getD T 1 0)
  have h2 := low_high (List.getD T 2 0)
  have h3 := low_high (List.getD T 3 0)
  have h4 := low_high (List.getD T 4 0)
  have h5 := low_high (List.getD T 5 0)
  have h6 := low_high (List.getD T 6 0)
  have h7 := low_high (List.getD T 7 0)
  simp only [dvk, Nat.reducePow]
  omega
theorem p256_sum {d0 d1 d2 d3 d4 d5 d6 d7 d8 d9 d10 d11 d12 d13 d14 d15 : Nat} {s0 s1 s2 s3 s4 s5 s6 s7 : Int} (h0 : s0 = (d0 : Int) + (d8 : Int) + (d9 : Int) + (-1) * (d11 : Int) + (-1) * (d12 : Int) + (-1) * (d13 : Int) + (-1) * (d14 : Int)) (h1 : s1 = (d1 : Int) + (d9 : Int) + (d10 : Int) + (-1) * (d12 : Int) + (-1) * (d13 : Int) + (-1) * (d14 : Int) + (-1) * (d15 : Int)) (h2 : s2 = (d2 : Int) + (d10 : Int) + (d11 : Int) + (-1) * (d13 : Int) + (-1) * (d14 : Int) + (-1) * (d15 : Int)) (h3 : s3 = (d3 : Int) + (2) * (d11 : Int) + (2) * (d12 : Int) + (d13 : Int) + (-1) * (d15 : Int) + (-1) * (d8 : Int) + (-1) * (d9 : Int)) (h4 : s4 = (d4 : Int) + (2) * (d12 : Int) + (2) * (d13 : Int) + (d14 : Int) + (-1) * (d9 : Int) + (-1) * (d10 : Int)) (h5 : s5 = (d5 : Int) + (2) * (d13 : Int) + (2) * (d14 : Int) + (d15 : Int) + (-1) * (d10 : Int) + (-1) * (d11 : Int)) (h6 : s6 = (d6 : Int) + (3) * (d14 : Int) + (2) * (d15 : Int) + (d13 : Int) + (-1) * (d8 : Int) + (-1) * (d9 : Int)) (h7 : s7 = (d7 : Int) + (3) * (d15 : Int) + (d8 : Int) + (-1) * (d10 : Int) + (-1) * (d11 : Int) + (-1) * (d12 : Int) + (-1) * (d13 : Int)) : (s0 * 1 + s1 * 4294967296 + s2 * 18446744073709551616 + s3 * 79228162514264337593543950336 + s4 * 340282366920938463463374607431768211456 + s5 * 1461501637330902918203684832716283019655932542976 + s6 * 6277101735386680763835789423207666416102355444464034512896 + s7 * 26959946667150639794667015087019630673637144422540572481103610249216) + (115792089210356248762697446949407573530086143415290314195533631308867097853951 : Int) * (1 * d8 + 4294967297 * d9 + 18446744078004518912 * d10 + 79228162532711081667253501951 * d11 + 340282367000166625977638945021017194495 * d12 + 1461501637671185285124623296161210883009696235519 * d13 + 6277101736848182401166692341332123086285927382448418586623 * d14 + 26959946673427741530053695850515137729844644212646842236464328081408 * d15) = (d0 : Int) * 1 + (d1 : Int) * 4294967296 + (d2 : Int) * 18446744073709551616 + (d3 : Int) * 79228162514264337593543950336 + (d4 : Int) * 340282366920938463463374607431768211456 + (d5 : Int) * 1461501637330902918203684832716283019655932542976 + (d6 : Int) * 6277101735386680763835789423207666416102355444464034512896 + (d7 : Int) * 26959946667150639794667015087019630673637144422540572481103610249216 + (d8 : Int) * 115792089237316195423570985008687907853269984665640564039457584007913129639936 + (d9 : Int) * 497323236409786642155382248146820840100456150797347717440463976893159497012533375533056 + (d10 : Int) * 2135987035920910082395021706169552114602704522356652769947041607822219725780640550022962086936576 + (d11 : Int) * 9173994463960286046443283581208347763186259956673124494950355357547691504353939232280074212440502746218496 + (d12 : Int) * 39402006196394479212279040100143613805079739270465446667948293404245721771497210611414266254884915640806627990306816 + (d13 : Int) * 169230328010303641331690318856389386196071598838855992136870091590247882556495704531248437872567112920983350278405979725889536 + (d14 : Int) * 726838724295606890549323807888004534353641360687318060281490199180639288113397923326191050713763565560762521606266177933534601628614656 + (d15 : Int) * 3121748550315992231381597229793166305748598142664971150859156959625371738819765620120306103063491971159826931121406622895447975679288285306290176 := by
  subst h0 h1 h2 h3 h4 h5 h6 h7
  omega
theorem m32 (x : Int) : IntKind.wrap .i64 ((BitVec.ofInt (IntKind.bits .i64) x &&& BitVec.ofInt (IntKind.bits .i64) (4294967295 : Int)).toNat : Int) = ((Int.toNat (x % 4294967296) : Nat) : Int) := by
  rw [i64_mask x 32 4294967295 (mi := 4294967295) rfl (by decide) (by decide), show (2 ^ 32 : Int) = 4294967296 from rfl]
  omega
theorem fdiv32 (x : Int) : Int.fdiv x (2 ^ 32) = x / 4294967296 := by rw [show (2 ^ 32 : Int) = 4294967296 from rfl, Int.fdiv_eq_ediv_of_nonneg _ (by decide)]
theorem w32_val (x y : Int) : (((((0 : UInt64) ||| (UInt64.ofNat (Int.toNat (x % 4294967296)) <<< UInt64.ofNat 0)) ||| (UInt64.ofNat (Int.toNat (y % 4294967296)) <<< UInt64.ofNat 32)).toNat : Nat) : Int) = x % 4294967296 + 4294967296 * (y % 4294967296) := by
  have e : (0 : UInt64) ||| (UInt64.ofNat (Int.toNat (x % 4294967296)) <<< UInt64.ofNat 0) = UInt64.ofNat (Int.toNat (x % 4294967296)) := by
    apply UInt64.toNat_inj.1
    rw [UInt64.toNat_or, UInt64.toNat_shiftLeft, show (UInt64.ofNat 0).toNat % 64 = 0 from rfl, Nat.shiftLeft_zero, show (0 : UInt64).toNat = 0 from rfl, Nat.zero_or]
    have := (UInt64.ofNat (Int.toNat (x % 4294967296))).toNat_lt
    omega
  rw [e, or_shl (by rw [ofNat_val]; omega) (by rw [ofNat_val]; omega), ofNat_val, ofNat_val]
  omega
theorem mn_val {x m : List UInt64} (hx : x.length = 4) (hm : m.length = 4) : ((nv (nd (nv x + W256 - nv m)) : Nat) : Int) = nv x - nv m + ((u1 (nv x < nv m)).toNat : Nat) * (W256 : Nat) := by
  have h1 := nv_lt hx
  have h2 := nv_lt hm
  rw [nd_val, u1_val]
  simp only [W256] at *
  split <;> omega
theorem pl_val {x m : List UInt64} (hx : x.length = 4) (hm : m.length = 4) : ((nv (nd (nv x + nv m)) : Nat) : Int) = nv x + nv m - ((u1 (W256 ≤ nv x + nv m)).toNat : Nat) * (W256 : Nat) := by
  have h1 := nv_lt hx
  have h2 := nv_lt hm
  rw [nd_val, u1_val]
  simp only [W256] at *
  split <;> omega
theorem down {o : List UInt64} {c X : Int} (ho : o.length = 4) (h : ((nv o : Nat) + c * (W256 : Nat)) % (mF 2 : Nat) = X) (hc : c > 0) :
    (((nv (nd (nv o + W256 - nv (nd (mF 2)))) : Nat) : Int) + (c + ((1 : Int) - ((UInt64.toNat (u1 (nv o < nv (nd (mF 2)))) : Nat) : Int)) - (1 : Int)) * (W256 : Nat)) % (mF 2 : Nat) = X ∧
    Int.toNat (((nv (nd (nv o + W256 - nv (nd (mF 2)))) : Nat) : Int) + (c + ((1 : Int) - ((UInt64.toNat (u1 (nv o < nv (nd (mF 2)))) : Nat) : Int)) - (1 : Int)) * (W256 : Nat)) < Int.toNat ((nv o : Nat) + c * (W256 : Nat)) := by
  have e := mn_val ho (nds_len 4 (mF 2))
  rw [nv_mF] at *
  have hm : mF 2 = 115792089210356248762697446949407573530086143415290314195533631308867097853951 := rfl
  generalize (u1 (nv o < mF 2)).toNat = u at *
  generalize nv (nd (nv o + W256 - mF 2)) = z at *
  generalize nv o = y at *
  rw [hm] at *
  simp only [W256] at *
  constructor <;> omega
theorem up {o : List UInt64} {c X : Int} (ho : o.length = 4) (h : ((nv o : Nat) + c * (W256 : Nat)) % (mF 2 : Nat) = X) (hc : c < 0) :
    (((nv (nd (nv o + nv (nd (mF 2)))) : Nat) : Int) + (c + ((UInt64.toNat (u1 (W256 ≤ nv o + nv (nd (mF 2)))) : Nat) : Int)) * (W256 : Nat)) % (mF 2 : Nat) = X ∧
    Int.toNat (-(((nv (nd (nv o + nv (nd (mF 2)))) : Nat) : Int) + (c + ((UInt64.toNat (u1 (W256 ≤ nv o + nv (nd (mF 2)))) : Nat) : Int)) * (W256 : Nat))) < Int.toNat (-((nv o : Nat) + c * (W256 : Nat))) := by
  have e := pl_val ho (nds_len 4 (mF 2))
  have ho2 := nv_lt ho
  rw [nv_mF] at *
  have hm : mF 2 = 115792089210356248762697446949407573530086143415290314195533631308867097853951 := rfl
  generalize (u1 (W256 ≤ nv o + mF 2)).toNat = u at *
  generalize nv (nd (nv o + mF 2)) = z at *
  generalize nv o = y at *
  rw [hm] at *
  simp only [W256] at *
  constructor <;> omega
theorem p256_start {d0 d1 d2 d3 d4 d5 d6 d7 d8 d9 d10 d11 d12 d13 d14 d15 : Nat} {s0 s1 s2 s3 s4 s5 s6 s7 x0 x1 x2 x3 x4 x5 x6 x7 c1 c2 c3 c4 c5 c6 c7 c8 : Int} {X : Nat} {o0 o1 o2 o3 : UInt64} (hX : X = d0 * 1 + d1 * 4294967296 + d2 * 18446744073709551616 + d3 * 79228162514264337593543950336 + d4 * 340282366920938463463374607431768211456 + d5 * 1461501637330902918203684832716283019655932542976 + d6 * 6277101735386680763835789423207666416102355444464034512896 + d7 * 26959946667150639794667015087019630673637144422540572481103610249216 + d8 * 115792089237316195423570985008687907853269984665640564039457584007913129639936 + d9 * 497323236409786642155382248146820840100456150797347717440463976893159497012533375533056 + d10 * 2135987035920910082395021706169552114602704522356652769947041607822219725780640550022962086936576 + d11 * 9173994463960286046443283581208347763186259956673124494950355357547691504353939232280074212440502746218496 + d12 * 39402006196394479212279040100143613805079739270465446667948293404245721771497210611414266254884915640806627990306816 + d13 * 169230328010303641331690318856389386196071598838855992136870091590247882556495704531248437872567112920983350278405979725889536 + d14 * 726838724295606890549323807888004534353641360687318060281490199180639288113397923326191050713763565560762521606266177933534601628614656 + d15 * 3121748550315992231381597229793166305748598142664971150859156959625371738819765620120306103063491971159826931121406622895447975679288285306290176) (hs : (s0 * 1 + s1 * 4294967296 + s2 * 18446744073709551616 + s3 * 79228162514264337593543950336 + s4 * 340282366920938463463374607431768211456 + s5 * 1461501637330902918203684832716283019655932542976 + s6 * 6277101735386680763835789423207666416102355444464034512896 + s7 * 26959946667150639794667015087019630673637144422540572481103610249216) + (115792089210356248762697446949407573530086143415290314195533631308867097853951 : Int) * (1 * d8 + 4294967297 * d9 + 18446744078004518912 * d10 + 79228162532711081667253501951 * d11 + 340282367000166625977638945021017194495 * d12 + 1461501637671185285124623296161210883009696235519 * d13 + 6277101736848182401166692341332123086285927382448418586623 * d14 + 26959946673427741530053695850515137729844644212646842236464328081408 * d15) = (d0 : Int) * 1 + (d1 : Int) * 4294967296 + (d2 : Int) * 18446744073709551616 + (d3 : Int) * 79228162514264337593543950336 + (d4 : Int) * 340282366920938463463374607431768211456 + (d5 : Int) * 1461501637330902918203684832716283019655932542976 + (d6 : Int) * 6277101735386680763835789423207666416102355444464034512896 + (d7 : Int) * 26959946667150639794667015087019630673637144422540572481103610249216 + (d8 : Int) * 115792089237316195423570985008687907853269984665640564039457584007913129639936 + (d9 : Int) * 497323236409786642155382248146820840100456150797347717440463976893159497012533375533056 + (d10 : Int) * 2135987035920910082395021706169552114602704522356652769947041607822219725780640550022962086936576 + (d11 : Int) * 9173994463960286046443283581208347763186259956673124494950355357547691504353939232280074212440502746218496 + (d12 : Int) * 39402006196394479212279040100143613805079739270465446667948293404245721771497210611414266254884915640806627990306816 + (d13 : Int) * 169230328010303641331690318856389386196071598838855992136870091590247882556495704531248437872567112920983350278405979725889536 + (d14 : Int) * 726838724295606890549323807888004534353641360687318060281490199180639288113397923326191050713763565560762521606266177933534601628614656 + (d15 : Int) * 3121748550315992231381597229793166305748598142664971150859156959625371738819765620120306103063491971159826931121406622895447975679288285306290176)
    (hx0 : x0 = s0 + (0 : Int)) (hc1 : c1 = x0 / 4294967296) (hx1 : x1 = s1 + c1) (hc2 : c2 = x1 / 4294967296) (hx2 : x2 = s2 + c2) (hc3 : c3 = x2 / 4294967296) (hx3 : x3 = s3 + c3) (hc4 : c4 = x3 / 4294967296) (hx4 : x4 = s4 + c4) (hc5 : c5 = x4 / 4294967296) (hx5 : x5 = s5 + c5) (hc6 : c6 = x5 / 4294967296) (hx6 : x6 = s6 + c6) (hc7 : c7 = x6 / 4294967296) (hx7 : x7 = s7 + c7) (hc8 : c8 = x7 / 4294967296) (ho0 : ((o0.toNat : Nat) : Int) = x0 % 4294967296 + 4294967296 * (x1 % 4294967296)) (ho1 : ((o1.toNat : Nat) : Int) = x2 % 4294967296 + 4294967296 * (x3 % 4294967296)) (ho2 : ((o2.toNat : Nat) : Int) = x4 % 4294967296 + 4294967296 * (x5 % 4294967296)) (ho3 : ((o3.toNat : Nat) : Int) = x6 % 4294967296 + 4294967296 * (x7 % 4294967296)) : (((nv [o0, o1, o2, o3] : Nat) : Int) + c8 * (W256 : Nat)) % (mF 2 : Nat) = (X : Int) % (mF 2 : Nat) := by
  have e : ((nv [o0, o1, o2, o3] : Nat) : Int) + c8 * (W256 : Nat) = s0 * 1 + s1 * 4294967296 + s2 * 18446744073709551616 + s3 * 79228162514264337593543950336 + s4 * 340282366920938463463374607431768211456 + s5 * 1461501637330902918203684832716283019655932542976 + s6 * 6277101735386680763835789423207666416102355444464034512896 + s7 * 26959946667150639794667015087019630673637144422540572481103610249216 := by
    rw [nv4]
    simp only [W256]
    omega
  rw [e]
  have e2 : (X : Int) = (s0 * 1 + s1 * 4294967296 + s2 * 18446744073709551616 + s3 * 79228162514264337593543950336 + s4 * 340282366920938463463374607431768211456 + s5 * 1461501637330902918203684832716283019655932542976 + s6 * 6277101735386680763835789423207666416102355444464034512896 + s7 * 26959946667150639794667015087019630673637144422540572481103610249216) + (115792089210356248762697446949407573530086143415290314195533631308867097853951 : Int) * (1 * d8 + 4294967297 * d9 + 18446744078004518912 * d10 + 79228162532711081667253501951 * d11 + 340282367000166625977638945021017194495 * d12 + 1461501637671185285124623296161210883009696235519 * d13 + 6277101736848182401166692341332123086285927382448418586623 * d14 + 26959946673427741530053695850515137729844644212646842236464328081408 * d15) := by omega
  rw [e2, show ((mF 2 : Nat) : Int) = 115792089210356248762697446949407573530086143415290314195533631308867097853951 from rfl, Int.add_mul_emod_self_left]
theorem p256_end {o : List UInt64} {c : Int} {X : Nat} (h : ((nv o : Nat) + c * (W256 : Nat)) % (mF 2 : Nat) = (X : Int) % (mF 2 : Nat)) (hc : c = 0) : nd (nv o % mF 2) = nd (X % mF 2) := by
  rw [hc, Int.zero_mul, Int.add_zero] at h
  congr 1
  exact Int.ofNat_inj.1 (by rw [Int.natCast_emod, Int.natCast_emod]; exact h)

theorem p256_row0 {d0 d8 d9 d11 d12 d13 d14 : Nat} {s : Int} (hd0 : d0 < 4294967296) (hd8 : d8 < 4294967296) (hd9 : d9 < 4294967296) (hd11 : d11 < 4294967296) (hd12 : d12 < 4294967296) (hd13 : d13 < 4294967296) (hd14 : d14 < 4294967296) (h : s = ((((((d0 + d8) + d9 : Nat) : Int) - ((d11 : Nat) : Int)) - ((d12 : Nat) : Int)) - ((d13 : Nat) : Int)) - ((d14 : Nat) : Int)) : (-34359738368 ≤ s ∧ s ≤ 34359738368) ∧ s = (d0 : Int) + (d8 : Int) + (d9 : Int) + (-1) * (d11 : Int) + (-1) * (d12 : Int) + (-1) * (d13 : Int) + (-1) * (d14 : Int) := by omega
theorem p256_row1 {d1 d9 d10 d12 d13 d14 d15 : Nat} {s : Int} (hd1 : d1 < 4294967296) (hd9 : d9 < 4294967296) (hd10 : d10 < 4294967296) (hd12 : d12 < 4294967296) (hd13 : d13 < 4294967296) (hd14 : d14 < 4294967296) (hd15 : d15 < 4294967296) (h : s = ((((((d1 + d9) + d10 : Nat) : Int) - ((d12 : Nat) : Int)) - ((d13 : Nat) : Int)) - ((d14 : Nat) : Int)) - ((d15 : Nat) : Int)) : (-34359738368 ≤ s ∧ s ≤ 34359738368) ∧ s = (d1 : Int) + (d9 : Int) + (d10 : Int) + (-1) * (d12 : Int) + (-1) * (d13 : Int) + (-1) * (d14 : Int) + (-1) * (d15 : Int) := by omega
theorem p256_row2 {d2 d10 d11 d13 d14 d15 : Nat} {s : Int} (hd2 : d2 < 4294967296) (hd10 : d10 < 4294967296) (hd11 : d11 < 4294967296) (hd13 : d13 < 4294967296) (hd14 : d14 < 4294967296) (hd15 : d15 < 4294967296) (h : s = (((((d2 + d10) + d11 : Nat) : Int) - ((d13 : Nat) : Int)) - ((d14 : Nat) : Int)) - ((d15 : Nat) : Int)) : (-34359738368 ≤ s ∧ s ≤ 34359738368) ∧ s = (d2 : Int) + (d10 : Int) + (d11 : Int) + (-1) * (d13 : Int) + (-1) * (d14 : Int) + (-1) * (d15 : Int) := by omega
theorem p256_row3 {d3 d8 d9 d11 d12 d13 d15 : Nat} {s : Int} (hd3 : d3 < 4294967296) (hd8 : d8 < 4294967296) (hd9 : d9 < 4294967296) (hd11 : d11 < 4294967296) (hd12 : d12 < 4294967296) (hd13 : d13 < 4294967296) (hd15 : d15 < 4294967296) (h : s = ((((((d3 + (2 * d11)) + (2 * d12)) + d13 : Nat) : Int) - ((d15 : Nat) : Int)) - ((d8 : Nat) : Int)) - ((d9 : Nat) : Int)) : (-34359738368 ≤ s ∧ s ≤ 34359738368) ∧ s = (d3 : Int) + (2) * (d11 : Int) + (2) * (d12 : Int) + (d13 : Int) + (-1) * (d15 : Int) + (-1) * (d8 : Int) + (-1) * (d9 : Int) := by omega
theorem p256_row4 {d4 d9 d10 d12 d13 d14 : Nat} {s : Int} (hd4 : d4 < 4294967296) (hd9 : d9 < 4294967296) (hd10 : d10 < 4294967296) (hd12 : d12 < 4294967296) (hd13 : d13 < 4294967296) (hd14 : d14 < 4294967296) (h : s = (((((d4 + (2 * d12)) + (2 * d13)) + d14 : Nat) : Int) - ((d9 : Nat) : Int)) - ((d10 : Nat) : Int)) : (-34359738368 ≤ s ∧ s ≤ 34359738368) ∧ s = (d4 : Int) + (2) * (d12 : Int) + (2) * (d13 : Int) + (d14 : Int) + (-1) * (d9 : Int) + (-1) * (d10 : Int) := by omega
theorem p256_row5 {d5 d10 d11 d13 d14 d15 : Nat} {s : Int} (hd5 : d5 < 4294967296) (hd10 : d10 < 4294967296) (hd11 : d11 < 4294967296) (hd13 : d13 < 4294967296) (hd14 : d14 < 4294967296) (hd15 : d15 < 4294967296) (h : s = (((((d5 + (2 * d13)) + (2 * d14)) + d15 : Nat) : Int) - ((d10 : Nat) : Int)) - ((d11 : Nat) : Int)) : (-34359738368 ≤ s ∧ s ≤ 34359738368) ∧ s = (d5 : Int) + (2) * (d13 : Int) + (2) * (d14 : Int) + (d15 : Int) + (-1) * (d10 : Int) + (-1) * (d11 : Int) := by omega
theorem p256_row6 {d6 d8 d9 d13 d14 d15 : Nat} {s : Int} (hd6 : d6 < 4294967296) (hd8 : d8 < 4294967296) (hd9 : d9 < 4294967296) (hd13 : d13 < 4294967296) (hd14 : d14 < 4294967296) (hd15 : d15 < 4294967296) (h : s = (((((d6 + (3 * d14)) + (2 * d15)) + d13 : Nat) : Int) - ((d8 : Nat) : Int)) - ((d9 : Nat) : Int)) : (-34359738368 ≤ s ∧ s ≤ 34359738368) ∧ s = (d6 : Int) + (3) * (d14 : Int) + (2) * (d15 : Int) + (d13 : Int) + (-1) * (d8 : Int) + (-1) * (d9 : Int) := by omega
theorem p256_row7 {d7 d8 d10 d11 d12 d13 d15 : Nat} {s : Int} (hd7 : d7 < 4294967296) (hd8 : d8 < 4294967296) (hd10 : d10 < 4294967296) (hd11 : d11 < 4294967296) (hd12 : d12 < 4294967296) (hd13 : d13 < 4294967296) (hd15 : d15 < 4294967296) (h : s = ((((((d7 + (3 * d15)) + d8 : Nat) : Int) - ((d10 : Nat) : Int)) - ((d11 : Nat) : Int)) - ((d12 : Nat) : Int)) - ((d13 : Nat) : Int)) : (-34359738368 ≤ s ∧ s ≤ 34359738368) ∧ s = (d7 : Int) + (3) * (d15 : Int) + (d8 : Int) + (-1) * (d10 : Int) + (-1) * (d11 : Int) + (-1) * (d12 : Int) + (-1) * (d13 : Int) := by omega
theorem mul256_go (w : World) (a b : List UInt64) (ha : List.length a = 4) (hb : List.length b = 4) : Calls Try.prog 84 #[.agg (List.toArray (u64s a)), .agg (List.toArray (u64s b))] w fun e w' => e = .returned (.agg (List.toArray (u64s (nd (nv a * nv b % mF 2))))) ∧ Ev w [] w' [] := by
 refine d_0 [(0, .agg (List.toArray (u64s a))), (1, .agg (List.toArray (u64s b)))] 296 Go.Proofs.Try.func84 Go.Proofs.Try.ntmps84 (Heap.nil _) fun act0 En0 Hv0 => ?_
 refine wp_seq ?_
 refine region_from ?_
 refine f_o ?_
 refine m_m 24 (u64s a) En0 Hv0 fun ac2 wo3 bk1 En4 Hv5 => ?_
 refine f_o ?_
 refine m_m 24 (u64s b) En4 Hv5 fun ac7 wo8 bk6 En9 Hv10 => ?_
 refine f_o ?_
 refine m_z 24 (u64s (List.replicate 4 0)) En9 Hv10 fun ac12 wo13 bk11 En14 Hv15 => ?_
 refine f_e ?_
 refine then_normal ?_
 refine wp_seq ?_
 refine region_from ?_
 refine f_o ?_
 refine c_l [0,1] (M := [.box bk1 (u64s a) 24, .box bk6 (u64s b) 24]) En14 Hv15 (fun hM16 => whole_go _ bk1 bk6 a b ha hb hM16) ?_
 rintro _ wo17 ⟨rfl, he18⟩
 refine ⟨_, _, [.box bk1 (u64s a) 24, .box bk6 (u64s b) 24, .box bk11 (u64s (List.replicate 4 0)) 24], rfl, he18, by kernel_rfl, fun ac20 En21 Hv22 => ?_⟩
 refine f_o ?_
 refine m_z 84 (u64s (List.replicate 8 0)) En21 Hv22 fun ac24 wo25 bk23 En26 Hv27 => ?_
 refine f_o ?_
 refine m_g 3 0 8 (u64s (nds 8 (nv a * nv b))) (u64s (nds 8 (nv a * nv b))) [.box bk1 (u64s a) 24, .box bk6 (u64s b) 24, .box bk11 (u64s (List.replicate 4 0)) 24, .box bk23 (u64s (nds 8 (nv a * nv b))) 84] En26 Hv27 rfl (u64s_lenh (nds_len _ _)) (by rw [(u64s_lenh (List.length_replicate))]; decide) (u64s_one _) (store_whole (u64s_lenh (List.length_replicate))) rfl fun ac28 wo29 En30 Hv31 => ?_
 refine f_e ?_
 refine then_normal ?_
 refine wp_seq ?_
 refine region_from ?_
 refine f_o ?_
 refine m_z 104 [.int .i64 0, .int .i64 0, .int .i64 0, .int .i64 0, .int .i64 0, .int .i64 0, .int .i64 0, .int .i64 0, .int .i64 0, .int .i64 0, .int .i64 0, .int .i64 0, .int .i64 0, .int .i64 0, .int .i64 0, .int .i64 0] En30 Hv31 fun ac33 wo34 bk32 En35 Hv36 => ?_
 refine f_e ?_
 refine then_normal ?_
 refine wp_seq ?_
 refine wp_seq ?_
 generalize hTe : nds 8 (nv a * nv b) = T at Hv36
 have hTl : List.length T = 8 := by rw [← hTe]; exact nds_len _ _
 have hTv : dv 18446744073709551616 T = nv a * nv b := by rw [← hTe, nds_val, Nat.mod_eq_of_lt (Nat.lt_of_lt_of_eq (Nat.mul_lt_mul'' (nv_lt ha) (nv_lt hb)) (by decide))]
 refine region_from ?_
 refine f_o ?_
 refine m_a 3 0 8 (u64s T) En35 Hv36 rfl (load_whole (u64s_lenh hTl)) (u64s_lenh hTl) fun ac37 En38 => ?_
 refine d_e [4,5,6,19,20] [] En38 fun ac39 En40 => ?_
 refine then_normal ?_
 refine wp_block ?_
 refine loop_enter ?_
 refine loop_once ?_
 refine wp_seq ?_
 refine d_r [4,5,6,19,20,21] [] En40 fun ac41 En42 => ?_
 refine then_normal ?_
 refine wp_seq ?_
 refine c_t En42 ?_
 refine wp_skip ?_
 refine then_normal ?_
 refine wp_seq ?_
 refine wp_block ?_
 refine wp_seq ?_
 have hb43 : 0 < List.length T := by rw [hTl]; omega
 refine region_from ?_
 refine d_k [4,5,6,19,20,22] [] 1 En42 fun ac44 En45 => ?_
 refine f_o ?_
 refine q_v (x := Instr.index 84 (.agg (List.toArray (u64s T))) (.int .i64 0)) (v := uv64 (List.getD T 0 0)) En45 (Go.Dbr.run_indexval (e := 22) (m := 8) (cs := u64s T) (j := 0) (v := uv64 (List.getD T 0 0)) (by kernel_rfl) (by kernel_rfl) (by kernel_rfl) (by omega) (by omega) (u64s_getD hb43) _) fun ac46 En47 => ?_
 refine d_e [4,5,6,7,8,19,20] [] En47 fun ac48 En49 => ?_
 refine then_normal ?_
 refine region_from ?_
 refine d_k [4,5,6,19,20,28,31,34,35] [(6, g_i .u64 (Go.Dbr.u64_and (x := List.getD T 0 0) (y := (4294967295 : UInt64)) rfl rfl)), (7, g_i .i64 (show IntKind.wrap .i64 ((UInt64.toNat ((List.getD T 0 0) &&& (4294967295 : UInt64)) : Nat) : Int) = ((UInt64.toNat ((List.getD T 0 0) &&& (4294967295 : UInt64)) : Nat) : Int) from conv_lo _)), (9, g_i .u64 (Go.Dbr.u64_shr (x := List.getD T 0 0) (n := 32) rfl (by decide))), (10, g_i .i64 (show IntKind.wrap .i64 ((UInt64.toNat ((List.getD T 0 0) >>> UInt64.ofNat 32) : Nat) : Int) = ((UInt64.toNat ((List.getD T 0 0) >>> UInt64.ofNat 32) : Nat) : Int) from conv_hi _))] 12 En49 fun ac50 En51 => ?_
 refine f_o ?_
 refine m_s 4 [.box bk1 (u64s a) 24, .box bk6 (u64s b) 24, .box bk11 (u64s (List.replicate 4 0)) 24, .box bk23 (u64s T) 84, .box bk32 [ni (UInt64.toNat ((List.getD T 0 0) &&& (4294967295 : UInt64))), .int .i64 0, .int .i64 0, .int .i64 0, .int .i64 0, .int .i64 0, .int .i64 0, .int .i64 0, .int .i64 0, .int .i64 0, .int .i64 0, .int .i64 0, .int .i64 0, .int .i64 0, .int .i64 0, .int .i64 0] 104] En51 Hv36 fun ac52 wo53 En54 Hv55 => ?_
 refine d_k [4,5,6,19,20,34,36] [] 14 En54 fun ac56 En57 => ?_
 refine f_o ?_
 refine m_s 4 [.box bk1 (u64s a) 24, .box bk6 (u64s b) 24, .box bk11 (u64s (List.replicate 4 0)) 24, .box bk23 (u64s T) 84, .box bk32 [ni (UInt64.toNat ((List.getD T 0 0) &&& (4294967295 : UInt64))), ni (UInt64.toNat ((List.getD T 0 0) >>> UInt64.ofNat 32)), .int .i64 0, .int .i64 0, .int .i64 0, .int .i64 0, .int .i64 0, .int .i64 0, .int .i64 0, .int .i64 0, .int .i64 0, .int .i64 0, .int .i64 0, .int .i64 0, .int .i64 0, .int .i64 0] 104] En57 Hv55 fun ac58 wo59 En60 Hv61 => ?_
 refine f_e ?_
 refine block_normal ?_
 refine then_normal ?_
 refine d_r [4,5,6,19,20] [] En60 fun ac62 En63 => ?_
 refine then_normal ?_
 refine loop_once ?_
 refine wp_seq ?_
 refine d_r [4,5,6,19,20,21] [] En63 fun ac64 En65 => ?_
 refine then_normal ?_
 refine wp_seq ?_
 refine c_t En65 ?_
 refine wp_skip ?_
 refine then_normal ?_
 refine wp_seq ?_
 refine wp_block ?_
 refine wp_seq ?_
 have hb66 : 1 < List.length T := by rw [hTl]; omega
 refine region_from ?_
 refine d_k [4,5,6,19,20,22] [] 1 En65 fun ac67 En68 => ?_
 refine f_o ?_
 refine q_v (x := Instr.index 84 (.agg (List.toArray (u64s T))) (.int .i64 1)) (v := uv64 (List.getD T 1 0)) En68 (Go.Dbr.run_indexval (e := 22) (m := 8) (cs := u64s T) (j := 1) (v := uv64 (List.getD T 1 0)) (by kernel_rfl) (by kernel_rfl) (by kernel_rfl) (by omega) (by omega) (u64s_getD hb66) _) fun ac69 En70 => ?_
 refine d_e [4,5,6,7,8,19,20] [] En70 fun ac71 En72 => ?_
 refine then_normal ?_
 refine region_from ?_
 refine d_k [4,5,6,19,20,28,31,34,35] [(6, g_i .u64 (Go.Dbr.u64_and (x := List.getD T 1 0) (y := (4294967295 : UInt64)) rfl rfl)), (7, g_i .i64 (show IntKind.wrap .i64 ((UInt64.toNat ((List.getD T 1 0) &&& (4294967295 : UInt64)) : Nat) : Int) = ((UInt64.toNat ((List.getD T 1 0) &&& (4294967295 : UInt64)) : Nat) : Int) from conv_lo _)), (9, g_i .u64 (Go.Dbr.u64_shr (x := List.getD T 1 0) (n := 32) rfl (by decide))), (10, g_i .i64 (show IntKind.wrap .i64 ((UInt64.toNat ((List.getD T 1 0) >>> UInt64.ofNat 32) : Nat) : Int) = ((UInt64.toNat ((List.getD T 1 0) >>> UInt64.ofNat 32) : Nat) : Int) from conv_hi _))] 12 En72 fun ac73 En74 => ?_
 refine f_o ?_
 refine m_s 4 [.box bk1 (u64s a) 24, .box bk6 (u64s b) 24, .box bk11 (u64s (List.replicate 4 0)) 24, .box bk23 (u64s T) 84, .box bk32 [ni (UInt64.toNat ((List.getD T 0 0) &&& (4294967295 : UInt64))), ni (UInt64.toNat ((List.getD T 0 0) >>> UInt64.ofNat 32)), ni (UInt64.toNat ((List.getD T 1 0) &&& (4294967295 : UInt64))), .int .i64 0, .int .i64 0, .int .i64 0, .int .i64 0, .int .i64 0, .int .i64 0, .int .i64 0, .int .i64 0, .int .i64 0, .int .i64 0, .int .i64 0, .int .i64 0, .int .i64 0] 104] En74 Hv61 fun ac75 wo76 En77 Hv78 => ?_
 refine d_k [4,5,6,19,20,34,36] [] 14 En77 fun ac79 En80 => ?_
 refine f_o ?_
 refine m_s 4 [.box bk1 (u64s a) 24, .box bk6 (u64s b) 24, .box bk11 (u64s (List.replicate 4 0)) 24, .box bk23 (u64s T) 84, .box bk32 [ni (UInt64.toNat ((List.getD T 0 0) &&& (4294967295 : UInt64))), ni (UInt64.toNat ((List.getD T 0 0) >>> UInt64.ofNat 32)), ni (UInt64.toNat ((List.getD T 1 0) &&& (4294967295 : UInt64))), ni (UInt64.toNat ((List.getD T 1 0) >>> UInt64.ofNat 32)), .int .i64 0, .int .i64 0, .int .i64 0, .int .i64 0, .int .i64 0, .int .i64 0, .int .i64 0, .int .i64 0, .int .i64 0, .int .i64 0, .int .i64 0, .int .i64 0] 104] En80 Hv78 fun ac81 wo82 En83 Hv84 => ?_
 refine f_e ?_
 refine block_normal ?_
 refine then_normal ?_
 refine d_r [4,5,6,19,20] [] En83 fun ac85 En86 => ?_
 refine then_normal ?_
 refine loop_once ?_
 refine wp_seq ?_
 refine d_r [4,5,6,19,20,21] [] En86 fun ac87 En88 => ?_
 refine then_normal ?_
 refine wp_seq ?_
 refine c_t En88 ?_
 refine wp_skip ?_
 refine then_normal ?_
 refine wp_seq ?_
 refine wp_block ?_
 refine wp_seq ?_
 have hb89 : 2 < List.length T := by rw [hTl]; omega
 refine region_from ?_
 refine d_k [4,5,6,19,20,22] [] 1 En88 fun ac90 En91 => ?_
 refine f_o ?_
 refine q_v (x := Instr.index 84 (.agg (List.toArray (u64s T))) (.int .i64 2)) (v := uv64 (List.getD T 2 0)) En91 (Go.Dbr.run_indexval (e := 22) (m := 8) (cs := u64s T) (j := 2) (v := uv64 (List.getD T 2 0)) (by kernel_rfl) (by kernel_rfl) (by kernel_rfl) (by omega) (by omega) (u64s_getD hb89) _) fun ac92 En93 => ?_
 refine d_e [4,5,6,7,8,19,20] [] En93 fun ac94 En95 => ?_
 refine then_normal ?_
 refine region_from ?_
 refine d_k [4,5,6,19,20,28,31,34,35] [(6, g_i .u64 (Go.Dbr.u64_and (x := List.getD T 2 0) (y := (4294967295 : UInt64)) rfl rfl)), (7, g_i .i64 (show IntKind.wrap .i64 ((UInt64.toNat ((List.getD T 2 0) &&& (4294967295 : UInt64)) : Nat) : Int) = ((UInt64.toNat ((List.getD T 2 0) &&& (4294967295 : UInt64)) : Nat) : Int) from conv_lo _)), (9, g_i .u64 (Go.Dbr.u64_shr (x := List.getD T 2 0) (n := 32) rfl (by decide))), (10, g_i .i64 (show IntKind.wrap .i64 ((UInt64.toNat ((List.getD T 2 0) >>> UInt64.ofNat 32) : Nat) : Int) = ((UInt64.toNat ((List.getD T 2 0) >>> UInt64.ofNat 32) : Nat) : Int) from conv_hi _))] 12 En95 fun ac96 En97 => ?_
 refine f_o ?_
 refine m_s 4 [.box bk1 (u64s a) 24, .box bk6 (u64s b) 24, .box bk11 (u64s (List.replicate 4 0)) 24, .box bk23 (u64s T) 84, .box bk32 [ni (UInt64.toNat ((List.getD T 0 0) &&& (4294967295 : UInt64))), ni (UInt64.toNat ((List.getD T 0 0) >>> UInt64.ofNat 32)), ni (UInt64.toNat ((List.getD T 1 0) &&& (4294967295 : UInt64))), ni (UInt64.toNat ((List.getD T 1 0) >>> UInt64.ofNat 32)), ni (UInt64.toNat ((List.getD T 2 0) &&& (4294967295 : UInt64))), .int .i64 0, .int .i64 0, .int .i64 0, .int .i64 0, .int .i64 0, .int .i64 0, .int .i64 0, .int .i64 0, .int .i64 0, .int .i64 0, .int .i64 0] 104] En97 Hv84 fun ac98 wo99 En100 Hv101 => ?_
 refine d_k [4,5,6,19,20,34,36] [] 14 En100 fun ac102 En103 => ?_
 refine f_o ?_
 refine m_s 4 [.box bk1 (u64s a) 24, .box bk6 (u64s b) 24, .box bk11 (u64s (List.replicate 4 0)) 24, .box bk23 (u64s T) 84, .box bk32 [ni (UInt64.toNat ((List.getD T 0 0) &&& (4294967295 : UInt64))), ni (UInt64.toNat ((List.getD T 0 0) >>> UInt64.ofNat 32)), ni (UInt64.toNat ((List.getD T 1 0) &&& (4294967295 : UInt64))), ni (UInt64.toNat ((List.getD T 1 0) >>> UInt64.ofNat 32)), ni (UInt64.toNat ((List.getD T 2 0) &&& (4294967295 : UInt64))), ni (UInt64.toNat ((List.getD T 2 0) >>> UInt64.ofNat 32)), .int .i64 0, .int .i64 0, .int .i64 0, .int .i64 0, .int .i64 0, .int .i64 0, .int .i64 0, .int .i64 0, .int .i64 0, .int .i64 0] 104] En103 Hv101 fun ac104 wo105 En106 Hv107 => ?_
 refine f_e ?_
 refine block_normal ?_
 refine then_normal ?_
 refine d_r [4,5,6,19,20] [] En106 fun ac108 En109 => ?_
 refine then_normal ?_
 refine loop_once ?_
 refine wp_seq ?_
 refine d_r [4,5,6,19,20,21] [] En109 fun ac110 En111 => ?_
 refine then_normal ?_
 refine wp_seq ?_
 refine c_t En111 ?_
 refine wp_skip ?_
 refine then_normal ?_
 refine wp_seq ?_
 refine wp_block ?_
 refine wp_seq ?_
 have hb112 : 3 < List.length T := by rw [hTl]; omega
 refine region_from ?_
 refine d_k [4,5,6,19,20,22] [] 1 En111 fun ac113 En114 => ?_
 refine f_o ?_
 refine q_v (x := Instr.index 84 (.agg (List.toArray (u64s T))) (.int .i64 3)) (v := uv64 (List.getD T 3 0)) En114 (Go.Dbr.run_indexval (e := 22) (m := 8) (cs := u64s T) (j := 3) (v := uv64 (List.getD T 3 0)) (by kernel_rfl) (by kernel_rfl) (by kernel_rfl) (by omega) (by omega) (u64s_getD hb112) _) fun ac115 En116 => ?_
 refine d_e [4,5,6,7,8,19,20] [] En116 fun ac117 En118 => ?_
 refine then_normal ?_
 refine region_from ?_
 refine d_k [4,5,6,19,20,28,31,34,35] [(6, g_i .u64 (Go.Dbr.u64_and (x := List.getD T 3 0) (y := (4294967295 : UInt64)) rfl rfl)), (7, g_i .i64 (show IntKind.wrap .i64 ((UInt64.toNat ((List.getD T 3 0) &&& (4294967295 : UInt64)) : Nat) : Int) = ((UInt64.toNat ((List.getD T 3 0) &&& (4294967295 : UInt64)) : Nat) : Int) from conv_lo _)), (9, g_i .u64 (Go.Dbr.u64_shr (x := List.getD T 3 0) (n := 32) rfl (by decide))), (10, g_i .i64 (show IntKind.wrap .i64 ((UInt64.toNat ((List.getD T 3 0) >>> UInt64.ofNat 32) : Nat) : Int) = ((UInt64.toNat ((List.getD T 3 0) >>> UInt64.ofNat 32) : Nat) : Int) from conv_hi _))] 12 En118 fun ac119 En120 => ?_
 refine f_o ?_
 refine m_s 4 [.box bk1 (u64s a) 24, .box bk6 (u64s b) 24, .box bk11 (u64s (List.replicate 4 0)) 24, .box bk23 (u64s T) 84, .box bk32 [ni (UInt64.toNat ((List.getD T 0 0) &&& (4294967295 : UInt64))), ni (UInt64.toNat ((List.getD T 0 0) >>> UInt64.ofNat 32)), ni (UInt64.toNat ((List.getD T 1 0) &&& (4294967295 : UInt64))), ni (UInt64.toNat ((List.getD T 1 0) >>> UInt64.ofNat 32)), ni (UInt64.toNat ((List.getD T 2 0) &&& (4294967295 : UInt64))), ni (UInt64.toNat ((List.getD T 2 0) >>> UInt64.ofNat 32)), ni (UInt64.toNat ((List.getD T 3 0) &&& (4294967295 : UInt64))), .int .i64 0, .int .i64 0, .int .i64 0, .int .i64 0, .int .i64 0, .int .i64 0, .int .i64 0, .int .i64 0, .int .i64 0] 104] En120 Hv107 fun ac121 wo122 En123 Hv124 => ?_
 refine d_k [4,5,6,19,20,34,36] [] 14 En123 fun ac125 En126 => ?_
 refine f_o ?_
 refine m_s 4 [.box bk1 (u64s a) 24, .box bk6 (u64s b) 24, .box bk11 (u64s (List.replicate 4 0)) 24, .box bk23 (u64s T) 84, .box bk32 [ni (UInt64.toNat ((List.getD T 0 0) &&& (4294967295 : UInt64))), ni (UInt64.toNat ((List.getD T 0 0) >>> UInt64.ofNat 32)), ni (UInt64.toNat ((List.getD T 1 0) &&& (4294967295 : UInt64))), ni (UInt64.toNat ((List.getD T 1 0) >>> UInt64.ofNat 32)), ni (UInt64.toNat ((List.getD T 2 0) &&& (4294967295 : UInt64))), ni (UInt64.toNat ((List.getD T 2 0) >>> UInt64.ofNat 32)), ni (UInt64.toNat ((List.getD T 3 0) &&& (4294967295 : UInt64))), ni (UInt64.toNat ((List.getD T 3 0) >>> UInt64.ofNat 32)), .int .i64 0, .int .i64 0, .int .i64 0, .int .i64 0, .int .i64 0, .int .i64 0, .int .i64 0, .int .i64 0] 104] En126 Hv124 fun ac127 wo128 En129 Hv130 => ?_
 refine f_e ?_
 refine block_normal ?_
 refine then_normal ?_
 refine d_r [4,5,6,19,20] [] En129 fun ac131 En132 => ?_
 refine then_normal ?_
 refine loop_once ?_
 refine wp_seq ?_
 refine d_r [4,5,6,19,20,21] [] En132 fun ac133 En134 => ?_
 refine then_normal ?_
 refine wp_seq ?_
 refine c_t En134 ?_
 refine wp_skip ?_
 refine then_normal ?_
 refine wp_seq ?_
 refine wp_block ?_
 refine wp_seq ?_
 have hb135 : 4 < List.length T := by rw [hTl]; omega
 refine region_from ?_
 refine d_k [4,5,6,19,20,22] [] 1 En134 fun ac136 En137 => ?_
 refine f_o ?_
 refine q_v (x := Instr.index 84 (.agg (List.toArray (u64s T))) (.int .i64 4)) (v := uv64 (List.getD T 4 0)) En137 (Go.Dbr.run_indexval (e := 22) (m := 8) (cs := u64s T) (j := 4) (v := uv64 (List.getD T 4 0)) (by kernel_rfl) (by kernel_rfl) (by kernel_rfl) (by omega) (by omega) (u64s_getD hb135) _) fun ac138 En139 => ?_
 refine d_e [4,5,6,7,8,19,20] [] En139 fun ac140 En141 => ?_
 refine then_normal ?_
 refine region_from ?_
 refine d_k [4,5,6,19,20,28,31,34,35] [(6, g_i .u64 (Go.Dbr.u64_and (x := List.getD T 4 0) (y := (4294967295 : UInt64)) rfl rfl)), (7, g_i .i64 (show IntKind.wrap .i64 ((UInt64.toNat ((List.getD T 4 0) &&& (4294967295 : UInt64)) : Nat) : Int) = ((UInt64.toNat ((List.getD T 4 0) &&& (4294967295 : UInt64)) : Nat) : Int) from conv_lo _)), (9, g_i .u64 (Go.Dbr.u64_shr (x := List.getD T 4 0) (n := 32) rfl (by decide))), (10, g_i .i64 (show IntKind.wrap .i64 ((UInt64.toNat ((List.getD T 4 0) >>> UInt64.ofNat 32) : Nat) : Int) = ((UInt64.toNat ((List.getD T 4 0) >>> UInt64.ofNat 32) : Nat) : Int) from conv_hi _))] 12 En141 fun ac142 En143 => ?_
 refine f_o ?_
 refine m_s 4 [.box bk1 (u64s a) 24, .box bk6 (u64s b) 24, .box bk11 (u64s (List.replicate 4 0)) 24, .box bk23 (u64s T) 84, .box bk32 [ni (UInt64.toNat ((List.getD T 0 0) &&& (4294967295 : UInt64))), ni (UInt64.toNat ((List.getD T 0 0) >>> UInt64.ofNat 32)), ni (UInt64.toNat ((List.getD T 1 0) &&& (4294967295 : UInt64))), ni (UInt64.toNat ((List.getD T 1 0) >>> UInt64.ofNat 32)), ni (UInt64.toNat ((List.getD T 2 0) &&& (4294967295 : UInt64))), ni (UInt64.toNat ((List.getD T 2 0) >>> UInt64.ofNat 32)), ni (UInt64.toNat ((List.getD T 3 0) &&& (4294967295 : UInt64))), ni (UInt64.toNat ((List.getD T 3 0) >>> UInt64.ofNat 32)), ni (UInt64.toNat ((List.getD T 4 0) &&& (4294967295 : UInt64))), .int .i64 0, .int .i64 0, .int .i64 0, .int .i64 0, .int .i64 0, .int .i64 0, .int .i64 0] 104] En143 Hv130 fun ac144 wo145 En146 Hv147 => ?_
 refine d_k [4,5,6,19,20,34,36] [] 14 En146 fun ac148 En149 => ?_
 refine f_o ?_
 refine m_s 4 [.box bk1 (u64s a) 24, .box bk6 (u64s b) 24, .box bk11 (u64s (List.replicate 4 0)) 24, .box bk23 (u64s T) 84, .box bk32 [ni (UInt64.toNat ((List.getD T 0 0) &&& (4294967295 : UInt64))), ni (UInt64.toNat ((List.getD T 0 0) >>> UInt64.ofNat 32)), ni (UInt64.toNat ((List.getD T 1 0) &&& (4294967295 : UInt64))), ni (UInt64.toNat ((List.getD T 1 0) >>> UInt64.ofNat 32)), ni (UInt64.toNat ((List.getD T 2 0) &&& (4294967295 : UInt64))), ni (UInt64.toNat ((List.getD T 2 0) >>> UInt64.ofNat 32)), ni (UInt64.toNat ((List.getD T 3 0) &&& (4294967295 : UInt64))), ni (UInt64.toNat ((List.getD T 3 0) >>> UInt64.ofNat 32)), ni (UInt64.toNat ((List.getD T 4 0) &&& (4294967295 : UInt64))), ni (UInt64.toNat ((List.getD T 4 0) >>> UInt64.ofNat 32)), .int .i64 0, .int .i64 0, .int .i64 0, .int .i64 0, .int .i64 0, .int .i64 0] 104] En149 Hv147 fun ac150 wo151 En152 Hv153 => ?_
 refine f_e ?_
 refine block_normal ?_
 refine then_normal ?_
 refine d_r [4,5,6,19,20] [] En152 fun ac154 En155 => ?_
 refine then_normal ?_
 refine loop_once ?_
 refine wp_seq ?_
 refine d_r [4,5,6,19,20,21] [] En155 fun ac156 En157 => ?_
 refine then_normal ?_
 refine wp_seq ?_
 refine c_t En157 ?_
 refine wp_skip ?_
 refine then_normal ?_
 refine wp_seq ?_
 refine wp_block ?_
 refine wp_seq ?_
 have hb158 : 5 < List.length T := by rw [hTl]; omega
 refine region_from ?_
 refine d_k [4,5,6,19,20,22] [] 1 En157 fun ac159 En160 => ?_
 refine f_o ?_
 refine q_v (x := Instr.index 84 (.agg (List.toArray (u64s T))) (.int .i64 5)) (v := uv64 (List.getD T 5 0)) En160 (Go.Dbr.run_indexval (e := 22) (m := 8) (cs := u64s T) (j := 5) (v := uv64 (List.getD T 5 0)) (by kernel_rfl) (by kernel_rfl) (by kernel_rfl) (by omega) (by omega) (u64s_getD hb158) _) fun ac161 En162 => ?_
 refine d_e [4,5,6,7,8,19,20] [] En162 fun ac163 En164 => ?_
 refine then_normal ?_
 refine region_from ?_
 refine d_k [4,5,6,19,20,28,31,34,35] [(6, g_i .u64 (Go.Dbr.u64_and (x := List.getD T 5 0) (y := (4294967295 : UInt64)) rfl rfl)), (7, g_i .i64 (show IntKind.wrap .i64 ((UInt64.toNat ((List.getD T 5 0) &&& (4294967295 : UInt64)) : Nat) : Int) = ((UInt64.toNat ((List.getD T 5 0) &&& (4294967295 : UInt64)) : Nat) : Int) from conv_lo _)), (9, g_i .u64 (Go.Dbr.u64_shr (x := List.getD T 5 0) (n := 32) rfl (by decide))), (10, g_i .i64 (show IntKind.wrap .i64 ((UInt64.toNat ((List.getD T 5 0) >>> UInt64.ofNat 32) : Nat) : Int) = ((UInt64.toNat ((List.getD T 5 0) >>> UInt64.ofNat 32) : Nat) : Int) from conv_hi _))] 12 En164 fun ac165 En166 => ?_
 refine f_o ?_
 refine m_s 4 [.box bk1 (u64s a) 24, .box bk6 (u64s b) 24, .box bk11 (u64s (List.replicate 4 0)) 24, .box bk23 (u64s T) 84, .box bk32 [ni (UInt64.toNat ((List.getD T 0 0) &&& (4294967295 : UInt64))), ni (UInt64.toNat ((List.getD T 0 0) >>> UInt64.ofNat 32)), ni (UInt64.toNat ((List.getD T 1 0) &&& (4294967295 : UInt64))), ni (UInt64.toNat ((List.getD T 1 0) >>> UInt64.ofNat 32)), ni (UInt64.toNat ((List.getD T 2 0) &&& (4294967295 : UInt64))), ni (UInt64.toNat ((List.getD T 2 0) >>> UInt64.ofNat 32)), ni (UInt64.toNat ((List.getD T 3 0) &&& (4294967295 : UInt64))), ni (UInt64.toNat ((List.getD T 3 0) >>> UInt64.ofNat 32)), ni (UInt64.toNat ((List.getD T 4 0) &&& (4294967295 : UInt64))), ni (UInt64.toNat ((List.getD T 4 0) >>> UInt64.ofNat 32)), ni (UInt64.toNat ((List.getD T 5 0) &&& (4294967295 : UInt64))), .int .i64 0, .int .i64 0, .int .i64 0, .int .i64 0, .int .i64 0] 104] En166 Hv153 fun ac167 wo168 En169 Hv170 => ?_
 refine d_k [4,5,6,19,20,34,36] [] 14 En169 fun ac171 En172 => ?_
 refine f_o ?_
 refine m_s 4 [.box bk1 (u64s a) 24, .box bk6 (u64s b) 24, .box bk11 (u64s (List.replicate 4 0)) 24, .box bk23 (u64s T) 84, .box bk32 [ni (UInt64.toNat ((List.getD T 0 0) &&& (4294967295 : UInt64))), ni (UInt64.toNat ((List.getD T 0 0) >>> UInt64.ofNat 32)), ni (UInt64.toNat ((List.getD T 1 0) &&& (4294967295 : UInt64))), ni (UInt64.toNat ((List.getD T 1 0) >>> UInt64.ofNat 32)), ni (UInt64.toNat ((List.getD T 2 0) &&& (4294967295 : UInt64))), ni (UInt64.toNat ((List.getD T 2 0) >>> UInt64.ofNat 32)), ni (UInt64.toNat ((List.getD T 3 0) &&& (4294967295 : UInt64))), ni (UInt64.toNat ((List.getD T 3 0) >>> UInt64.ofNat 32)), ni (UInt64.toNat ((List.getD T 4 0) &&& (4294967295 : UInt64))), ni (UInt64.toNat ((List.getD T 4 0) >>> UInt64.ofNat 32)), ni (UInt64.toNat ((List.getD T 5 0) &&& (4294967295 : UInt64))), ni (UInt64.toNat ((List.getD T 5 0) >>> UInt64.ofNat 32)), .int .i64 0, .int .i64 0, .int .i64 0, .int .i64 0] 104] En172 Hv170 fun ac173 wo174 En175 Hv176 => ?_
 refine f_e ?_
 refine block_normal ?_
 refine then_normal ?_
 refine d_r [4,5,6,19,20] [] En175 fun ac177 En178 => ?_
 refine then_normal ?_
 refine loop_once ?_
 refine wp_seq ?_
 refine d_r [4,5,6,19,20,21] [] En178 fun ac179 En180 => ?_
 refine then_normal ?_
 refine wp_seq ?_
 refine c_t En180 ?_
 refine wp_skip ?_
 refine then_normal ?_
 refine wp_seq ?_
 refine wp_block ?_
 refine wp_seq ?_
 have hb181 : 6 < List.length T := by rw [hTl]; omega
 refine region_from ?_
 refine d_k [4,5,6,19,20,22] [] 1 En180 fun ac182 En183 => ?_
 refine f_o ?_
 refine q_v (x := Instr.index 84 (.agg (List.toArray (u64s T))) (.int .i64 6)) (v := uv64 (List.getD T 6 0)) En183 (Go.Dbr.run_indexval (e := 22) (m := 8) (cs := u64s T) (j := 6) (v := uv64 (List.getD T 6 0)) (by kernel_rfl) (by kernel_rfl) (by kernel_rfl) (by omega) (by omega) (u64s_getD hb181) _) fun ac184 En185 => ?_
 refine d_e [4,5,6,7,8,19,20] [] En185 fun ac186 En187 => ?_
 refine then_normal ?_
 refine region_from ?_
 refine d_k [4,5,6,19,20,28,31,34,35] [(6, g_i .u64 (Go.Dbr.u64_and (x := List.getD T 6 0) (y := (4294967295 : UInt64)) rfl rfl)), (7, g_i .i64 (show IntKind.wrap .i64 ((UInt64.toNat ((List.getD T 6 0) &&& (4294967295 : UInt64)) : Nat) : Int) = ((UInt64.toNat ((List.getD T 6 0) &&& (4294967295 : UInt64)) : Nat) : Int) from conv_lo _)), (9, g_i .u64 (Go.Dbr.u64_shr (x := List.getD T 6 0) (n := 32) rfl (by decide))), (10, g_i .i64 (show IntKind.wrap .i64 ((UInt64.toNat ((List.getD T 6 0) >>> UInt64.ofNat 32) : Nat) : Int) = ((UInt64.toNat ((List.getD T 6 0) >>> UInt64.ofNat 32) : Nat) : Int) from conv_hi _))] 12 En187 fun ac188 En189 => ?_
 refine f_o ?_
 refine m_s 4 [.box bk1 (u64s a) 24, .box bk6 (u64s b) 24, .box bk11 (u64s (List.replicate 4 0)) 24, .box bk23 (u64s T) 84, .box bk32 [ni (UInt64.toNat ((List.getD T 0 0) &&& (4294967295 : UInt64))), ni (UInt64.toNat ((List.getD T 0 0) >>> UInt64.ofNat 32)), ni (UInt64.toNat ((List.getD T 1 0) &&& (4294967295 : UInt64))), ni (UInt64.toNat ((List.getD T 1 0) >>> UInt64.ofNat 32)), ni (UInt64.toNat ((List.getD T 2 0) &&& (4294967295 : UInt64))), ni (UInt64.toNat ((List.getD T 2 0) >>> UInt64.ofNat 32)), ni (UInt64.toNat ((List.getD T 3 0) &&& (4294967295 : UInt64))), ni (UInt64.toNat ((List.getD T 3 0) >>> UInt64.ofNat 32)), ni (UInt64.toNat ((List.getD T 4 0) &&& (4294967295 : UInt64))), ni (UInt64.toNat ((List.getD T 4 0) >>> UInt64.ofNat 32)), ni (UInt64.toNat ((List.getD T 5 0) &&& (4294967295 : UInt64))), ni (UInt64.toNat ((List.getD T 5 0) >>> UInt64.ofNat 32)), ni (UInt64.toNat ((List.getD T 6 0) &&& (4294967295 : UInt64))), .int .i64 0, .int .i64 0, .int .i64 0] 104] En189 Hv176 fun ac190 wo191 En192 Hv193 => ?_
 refine d_k [4,5,6,19,20,34,36] [] 14 En192 fun ac194 En195 => ?_
 refine f_o ?_
 refine m_s 4 [.box bk1 (u64s a) 24, .box bk6 (u64s b) 24, .box bk11 (u64s (List.replicate 4 0)) 24, .box bk23 (u64s T) 84, .box bk32 [ni (UInt64.toNat ((List.getD T 0 0) &&& (4294967295 : UInt64))), ni (UInt64.toNat ((List.getD T 0 0) >>> UInt64.ofNat 32)), ni (UInt64.toNat ((List.getD T 1 0) &&& (4294967295 : UInt64))), ni (UInt64.toNat ((List.getD T 1 0) >>> UInt64.ofNat 32)), ni (UInt64.toNat ((List.getD T 2 0) &&& (4294967295 : UInt64))), ni (UInt64.toNat ((List.getD T 2 0) >>> UInt64.ofNat 32)), ni (UInt64.toNat ((List.getD T 3 0) &&& (4294967295 : UInt64))), ni (UInt64.toNat ((List.getD T 3 0) >>> UInt64.ofNat 32)), ni (UInt64.toNat ((List.getD T 4 0) &&& (4294967295 : UInt64))), ni (UInt64.toNat ((List.getD T 4 0) >>> UInt64.ofNat 32)), ni (UInt64.toNat ((List.getD T 5 0) &&& (4294967295 : UInt64))), ni (UInt64.toNat ((List.getD T 5 0) >>> UInt64.ofNat 32)), ni (UInt64.toNat ((List.getD T 6 0) &&& (4294967295 : UInt64))), ni (UInt64.toNat ((List.getD T 6 0) >>> UInt64.ofNat 32)), .int .i64 0, .int .i64 0] 104] En195 Hv193 fun ac196 wo197 En198 Hv199 => ?_
 refine f_e ?_
 refine block_normal ?_
 refine then_normal ?_
 refine d_r [4,5,6,19,20] [] En198 fun ac200 En201 => ?_
 refine then_normal ?_
 refine loop_once ?_
 refine wp_seq ?_
 refine d_r [4,5,6,19,20,21] [] En201 fun ac202 En203 => ?_
 refine then_normal ?_
 refine wp_seq ?_
 refine c_t En203 ?_
 refine wp_skip ?_
 refine then_normal ?_
 refine wp_seq ?_
 refine wp_block ?_
 refine wp_seq ?_
 have hb204 : 7 < List.length T := by rw [hTl]; omega
 refine region_from ?_
 refine d_k [4,5,6,19,20,22] [] 1 En203 fun ac205 En206 => ?_
 refine f_o ?_
 refine q_v (x := Instr.index 84 (.agg (List.toArray (u64s T))) (.int .i64 7)) (v := uv64 (List.getD T 7 0)) En206 (Go.Dbr.run_indexval (e := 22) (m := 8) (cs := u64s T) (j := 7) (v := uv64 (List.getD T 7 0)) (by kernel_rfl) (by kernel_rfl) (by kernel_rfl) (by omega) (by omega) (u64s_getD hb204) _) fun ac207 En208 => ?_
 refine d_e [4,5,6,7,8,19,20] [] En208 fun ac209 En210 => ?_
 refine then_normal ?_
 refine region_from ?_
 refine d_k [4,5,6,19,20,28,31,34,35] [(6, g_i .u64 (Go.Dbr.u64_and (x := List.getD T 7 0) (y := (4294967295 : UInt64)) rfl rfl)), (7, g_i .i64 (show IntKind.wrap .i64 ((UInt64.toNat ((List.getD T 7 0) &&& (4294967295 : UInt64)) : Nat) : Int) = ((UInt64.toNat ((List.getD T 7 0) &&& (4294967295 : UInt64)) : Nat) : Int) from conv_lo _)), (9, g_i .u64 (Go.Dbr.u64_shr (x := List.getD T 7 0) (n := 32) rfl (by decide))), (10, g_i .i64 (show IntKind.wrap .i64 ((UInt64.toNat ((List.getD T 7 0) >>> UInt64.ofNat 32) : Nat) : Int) = ((UInt64.toNat ((List.getD T 7 0) >>> UInt64.ofNat 32) : Nat) : Int) from conv_hi _))] 12 En210 fun ac211 En212 => ?_
 refine f_o ?_
 refine m_s 4 [.box bk1 (u64s a) 24, .box bk6 (u64s b) 24, .box bk11 (u64s (List.replicate 4 0)) 24, .box bk23 (u64s T) 84, .box bk32 [ni (UInt64.toNat ((List.getD T 0 0) &&& (4294967295 : UInt64))), ni (UInt64.toNat ((List.getD T 0 0) >>> UInt64.ofNat 32)), ni (UInt64.toNat ((List.getD T 1 0) &&& (4294967295 : UInt64))), ni (UInt64.toNat ((List.getD T 1 0) >>> UInt64.ofNat 32)), ni (UInt64.toNat ((List.getD T 2 0) &&& (4294967295 : UInt64))), ni (UInt64.toNat ((List.getD T 2 0) >>> UInt64.ofNat 32)), ni (UInt64.toNat ((List.getD T 3 0) &&& (4294967295 : UInt64))), ni (UInt64.toNat ((List.getD T 3 0) >>> UInt64.ofNat 32)), ni (UInt64.toNat ((List.getD T 4 0) &&& (4294967295 : UInt64))), ni (UInt64.toNat ((List.getD T 4 0) >>> UInt64.ofNat 32)), ni (UInt64.toNat ((List.getD T 5 0) &&& (4294967295 : UInt64))), ni (UInt64.toNat ((List.getD T 5 0) >>> UInt64.ofNat 32)), ni (UInt64.toNat ((List.getD T 6 0) &&& (4294967295 : UInt64))), ni (UInt64.toNat ((List.getD T 6 0) >>> UInt64.ofNat 32)), ni (UInt64.toNat ((List.getD T 7 0) &&& (4294967295 : UInt64))), .int .i64 0] 104] En212 Hv199 fun ac213 wo214 En215 Hv216 => ?_
 refine d_k [4,5,6,19,20,34,36] [] 14 En215 fun ac217 En218 => ?_
 refine f_o ?_
 refine m_s 4 [.box bk1 (u64s a) 24, .box bk6 (u64s b) 24, .box bk11 (u64s (List.replicate 4 0)) 24, .box bk23 (u64s T) 84, .box bk32 [ni (UInt64.toNat ((List.getD T 0 0) &&& (4294967295 : UInt64))), ni (UInt64.toNat ((List.getD T 0 0) >>> UInt64.ofNat 32)), ni (UInt64.toNat ((List.getD T 1 0) &&& (4294967295 : UInt64))), ni (UInt64.toNat ((List.getD T 1 0) >>> UInt64.ofNat 32)), ni (UInt64.toNat ((List.getD T 2 0) &&& (4294967295 : UInt64))), ni (UInt64.toNat ((List.getD T 2 0) >>> UInt64.ofNat 32)), ni (UInt64.toNat ((List.getD T 3 0) &&& (4294967295 : UInt64))), ni (UInt64.toNat ((List.getD T 3 0) >>> UInt64.ofNat 32)), ni (UInt64.toNat ((List.getD T 4 0) &&& (4294967295 : UInt64))), ni (UInt64.toNat ((List.getD T 4 0) >>> UInt64.ofNat 32)), ni (UInt64.toNat ((List.getD T 5 0) &&& (4294967295 : UInt64))), ni (UInt64.toNat ((List.getD T 5 0) >>> UInt64.ofNat 32)), ni (UInt64.toNat ((List.getD T 6 0) &&& (4294967295 : UInt64))), ni (UInt64.toNat ((List.getD T 6 0) >>> UInt64.ofNat 32)), ni (UInt64.toNat ((List.getD T 7 0) &&& (4294967295 : UInt64))), ni (UInt64.toNat ((List.getD T 7 0) >>> UInt64.ofNat 32))] 104] En218 Hv216 fun ac219 wo220 En221 Hv222 => ?_
 refine f_e ?_
 refine block_normal ?_
 refine then_normal ?_
 refine d_r [4,5,6,19,20] [] En221 fun ac223 En224 => ?_
 refine then_normal ?_
 refine loop_once ?_
 refine wp_seq ?_
 refine d_r [4,5,6,19,20,21] [] En224 fun ac225 En226 => ?_
 refine then_normal ?_
 refine wp_seq ?_
 refine c_f En226 ?_
 refine wp_exit ?_
 refine then_exit ?_
 refine then_exit ?_
 refine block_exit ?_
 refine then_normal ?_
 refine wp_seq ?_
 have hX := hTv.symm.trans (w16 hTl)
 generalize hd0 : UInt64.toNat ((List.getD T 0 0) &&& (4294967295 : UInt64)) = d0 at Hv222 hX
 have hb0 : d0 < 4294967296 := by rw [← hd0]; exact low32 _
 clear hd0
 generalize hd1 : UInt64.toNat ((List.getD T 0 0) >>> UInt64.ofNat 32) = d1 at Hv222 hX
 have hb1 : d1 < 4294967296 := by rw [← hd1]; exact high32 _
 clear hd1
 generalize hd2 : UInt64.toNat ((List.getD T 1 0) &&& (4294967295 : UInt64)) = d2 at Hv222 hX
 have hb2 : d2 < 4294967296 := by rw [← hd2]; exact low32 _
 clear hd2
 generalize hd3 : UInt64.toNat ((List.getD T 1 0) >>> UInt64.ofNat 32) = d3 at Hv222 hX
 have hb3 : d3 < 4294967296 := by rw [← hd3]; exact high32 _
 clear hd3
 generalize hd4 : UInt64.toNat ((List.getD T 2 0) &&& (4294967295 : UInt64)) = d4 at Hv222 hX
 have hb4 : d4 < 4294967296 := by rw [← hd4]; exact low32 _
 clear hd4
 generalize hd5 : UInt64.toNat ((List.getD T 2 0) >>> UInt64.ofNat 32) = d5 at Hv222 hX
 have hb5 : d5 < 4294967296 := by rw [← hd5]; exact high32 _
 clear hd5
 generalize hd6 : UInt64.toNat ((List.getD T 3 0) &&& (4294967295 : UInt64)) = d6 at Hv222 hX
 have hb6 : d6 < 4294967296 := by rw [← hd6]; exact low32 _
 clear hd6
 generalize hd7 : UInt64.toNat ((List.getD T 3 0) >>> UInt64.ofNat 32) = d7 at Hv222 hX
 have hb7 : d7 < 4294967296 := by rw [← hd7]; exact high32 _
 clear hd7
 generalize hd8 : UInt64.toNat ((List.getD T 4 0) &&& (4294967295 : UInt64)) = d8 at Hv222 hX
 have hb8 : d8 < 4294967296 := by rw [← hd8]; exact low32 _
 clear hd8
 generalize hd9 : UInt64.toNat ((List.getD T 4 0) >>> UInt64.ofNat 32) = d9 at Hv222 hX
 have hb9 : d9 < 4294967296 := by rw [← hd9]; exact high32 _
 clear hd9
 generalize hd10 : UInt64.toNat ((List.getD T 5 0) &&& (4294967295 : UInt64)) = d10 at Hv222 hX
 have hb10 : d10 < 4294967296 := by rw [← hd10]; exact low32 _
 clear hd10
 generalize hd11 : UInt64.toNat ((List.getD T 5 0) >>> UInt64.ofNat 32) = d11 at Hv222 hX
 have hb11 : d11 < 4294967296 := by rw [← hd11]; exact high32 _
 clear hd11
 generalize hd12 : UInt64.toNat ((List.getD T 6 0) &&& (4294967295 : UInt64)) = d12 at Hv222 hX
 have hb12 : d12 < 4294967296 := by rw [← hd12]; exact low32 _
 clear hd12
 generalize hd13 : UInt64.toNat ((List.getD T 6 0) >>> UInt64.ofNat 32) = d13 at Hv222 hX
 have hb13 : d13 < 4294967296 := by rw [← hd13]; exact high32 _
 clear hd13
 generalize hd14 : UInt64.toNat ((List.getD T 7 0) &&& (4294967295 : UInt64)) = d14 at Hv222 hX
 have hb14 : d14 < 4294967296 := by rw [← hd14]; exact low32 _
 clear hd14
 generalize hd15 : UInt64.toNat ((List.getD T 7 0) >>> UInt64.ofNat 32) = d15 at Hv222 hX
 have hb15 : d15 < 4294967296 := by rw [← hd15]; exact high32 _
 clear hd15
 replace hX : Hid _ := hX
 refine region_from ?_
 refine f_o ?_
 refine op_slicearr (d := some 38) (t := 104) (e := 2) (sz := 1) (m := 16) (lo := 8) (hi := 16) (b := bk32) (off := 0) (lov := (some (.int .i64 8))) (hiv := none) (o := 8) En226 (by kernel_rfl) (by kernel_rfl) (by kernel_rfl) (by omega) (by omega) (by omega) (.inr ⟨.i64, rfl⟩) (.inl ⟨rfl, rfl⟩) (by omega) ?_
 intro ac227 En228
 refine d_e [4,5,6,9,19,20] [] En228 fun ac229 En230 => ?_
 refine then_normal ?_
 refine wp_seq ?_
 refine r_c (fun ac wo => ∃ (bk534 : Nat), Env ac 296 [(4, pt bk11), (5, pt bk23), (6, pt bk32), (10, pt bk534), (19, .agg (List.toArray (u64s T))), (20, .int .i64 8)] ∧ Ev w [] wo [.box bk11 (u64s (List.replicate 4 0)) 24, .box bk23 (u64s T) 84, .box bk32 [ni d0, ni d1, ni d2, ni d3, ni d4, ni d5, ni d6, ni d7, ni d8, ni d9, ni d10, ni d11, ni d12, ni d13, ni d14, ni d15] 104, .box bk534 [.int .i64 (((((((d0 + d8) + d9 : Nat) : Int) - ((d11 : Nat) : Int)) - ((d12 : Nat) : Int)) - ((d13 : Nat) : Int)) - ((d14 : Nat) : Int)), .int .i64 (((((((d1 + d9) + d10 : Nat) : Int) - ((d12 : Nat) : Int)) - ((d13 : Nat) : Int)) - ((d14 : Nat) : Int)) - ((d15 : Nat) : Int)), .int .i64 ((((((d2 + d10) + d11 : Nat) : Int) - ((d13 : Nat) : Int)) - ((d14 : Nat) : Int)) - ((d15 : Nat) : Int)), .int .i64 (((((((d3 + (2 * d11)) + (2 * d12)) + d13 : Nat) : Int) - ((d15 : Nat) : Int)) - ((d8 : Nat) : Int)) - ((d9 : Nat) : Int)), .int .i64 ((((((d4 + (2 * d12)) + (2 * d13)) + d14 : Nat) : Int) - ((d9 : Nat) : Int)) - ((d10 : Nat) : Int)), .int .i64 ((((((d5 + (2 * d13)) + (2 * d14)) + d15 : Nat) : Int) - ((d10 : Nat) : Int)) - ((d11 : Nat) : Int)), .int .i64 ((((((d6 + (3 * d14)) + (2 * d15)) + d13 : Nat) : Int) - ((d8 : Nat) : Int)) - ((d9 : Nat) : Int)), .int .i64 (((((((d7 + (3 * d15)) + d8 : Nat) : Int) - ((d10 : Nat) : Int)) - ((d11 : Nat) : Int)) - ((d12 : Nat) : Int)) - ((d13 : Nat) : Int))] 106]) ?_ ?_
 ·
  refine w_in (fun wv => Ev w [] wv [.box bk32 [ni d0, ni d1, ni d2, ni d3, ni d4, ni d5, ni d6, ni d7, ni d8, ni d9, ni d10, ni d11, ni d12, ni d13, ni d14, ni d15] 104]) 204 (fun hg => ?_)
  have wo231 := Hv222.trans (Ev.drew Hv222.heap)
  refine w_s hg [0] [] 203 En230 (wo231.pk [4]) fun ac543 En544 => ?_
  refine w_l hg 0 1 En544 (wo231.pk [4]) fun ac545 En546 => ?_
  refine w_s hg [2] [] 201 En546 (wo231.pk [4]) fun ac547 En548 => ?_
  refine w_f hg 3 (s := Instr.indexAt 105 (.slice (some ⟨bk32, 8, none⟩) 8 8) (.int .i64 0)) (v := .pointer (some ⟨bk32, 8, none⟩)) En548 (fun _ => Go.Dbr.run_indexsl (ad := ⟨bk32, 8, none⟩) (e := 2) (sz := 1) (j := 0) (jo := 0) rfl (by kernel_rfl) (by kernel_rfl) (by omega) (by decide) (Nat.mul_one _) _) (wo231.pk [4]) fun ac549 En550 => ?_
  refine w_l hg 0 4 En550 (wo231.pk [4]) fun ac551 En552 => ?_
  refine w_s hg [5,6] [(5, g_n (w_a d0 d8))] 197 En552 (wo231.pk [4]) fun ac553 En554 => ?_
  refine w_f hg 7 (s := Instr.indexAt 105 (.slice (some ⟨bk32, 8, none⟩) 8 8) (.int .i64 1)) (v := .pointer (some ⟨bk32, 9, none⟩)) En554 (fun _ => Go.Dbr.run_indexsl (ad := ⟨bk32, 8, none⟩) (e := 2) (sz := 1) (j := 1) (jo := 1) rfl (by kernel_rfl) (by kernel_rfl) (by omega) (by decide) (Nat.mul_one _) _) (wo231.pk [4]) fun ac555 En556 => ?_
  refine w_l hg 0 8 En556 (wo231.pk [4]) fun ac557 En558 => ?_
  refine w_s hg [9,10] [(9, g_n (w_a (d0 + d8) d9))] 193 En558 (wo231.pk [4]) fun ac559 En560 => ?_
  refine w_f hg 11 (s := Instr.indexAt 105 (.slice (some ⟨bk32, 8, none⟩) 8 8) (.int .i64 3)) (v := .pointer (some ⟨bk32, 11, none⟩)) En560 (fun _ => Go.Dbr.run_indexsl (ad := ⟨bk32, 8, none⟩) (e := 2) (sz := 1) (j := 3) (jo := 3) rfl (by kernel_rfl) (by kernel_rfl) (by omega) (by decide) (Nat.mul_one _) _) (wo231.pk [4]) fun ac561 En562 => ?_
  refine w_l hg 0 12 En562 (wo231.pk [4]) fun ac563 En564 => ?_
  refine w_s hg [13,14] [(13, g_n (w_r (e := (((d0 + d8) + d9 : Nat) : Int) - ((d11 : Nat) : Int)) (x := (((d0 + d8) + d9 : Nat) : Int) - ((d11 : Nat) : Int)) (by omega)))] 189 En564 (wo231.pk [4]) fun ac565 En566 => ?_
  refine w_f hg 15 (s := Instr.indexAt 105 (.slice (some ⟨bk32, 8, none⟩) 8 8) (.int .i64 4)) (v := .pointer (some ⟨bk32, 12, none⟩)) En566 (fun _ => Go.Dbr.run_indexsl (ad := ⟨bk32, 8, none⟩) (e := 2) (sz := 1) (j := 4) (jo := 4) rfl (by kernel_rfl) (by kernel_rfl) (by omega) (by decide) (Nat.mul_one _) _) (wo231.pk [4]) fun ac567 En568 => ?_
  refine w_l hg 0 16 En568 (wo231.pk [4]) fun ac569 En570 => ?_
  refine w_s hg [17,18] [(17, g_n (w_r (e := (((d0 + d8) + d9 : Nat) : Int) - ((d11 : Nat) : Int) - ((d12 : Nat) : Int)) (x := ((((d0 + d8) + d9 : Nat) : Int) - ((d11 : Nat) : Int)) - ((d12 : Nat) : Int)) (by omega)))] 185 En570 (wo231.pk [4]) fun ac571 En572 => ?_
  refine w_f hg 19 (s := Instr.indexAt 105 (.slice (some ⟨bk32, 8, none⟩) 8 8) (.int .i64 5)) (v := .pointer (some ⟨bk32, 13, none⟩)) En572 (fun _ => Go.Dbr.run_indexsl (ad := ⟨bk32, 8, none⟩) (e := 2) (sz := 1) (j := 5) (jo := 5) rfl (by kernel_rfl) (by kernel_rfl) (by omega) (by decide) (Nat.mul_one _) _) (wo231.pk [4]) fun ac573 En574 => ?_
  refine w_l hg 0 20 En574 (wo231.pk [4]) fun ac575 En576 => ?_
  refine w_s hg [21,22] [(21, g_n (w_r (e := ((((d0 + d8) + d9 : Nat) : Int) - ((d11 : Nat) : Int)) - ((d12 : Nat) : Int) - ((d13 : Nat) : Int)) (x := (((((d0 + d8) + d9 : Nat) : Int) - ((d11 : Nat) : Int)) - ((d12 : Nat) : Int)) - ((d13 : Nat) : Int)) (by omega)))] 181 En576 (wo231.pk [4]) fun ac577 En578 => ?_
  have En579 : Env _ 296 [(4, pt bk11), (5, pt bk23), (6, pt bk32), (9, .slice (some ⟨bk32, 8, none⟩) 8 8), (19, .agg (List.toArray (u64s T))), (20, .int .i64 8), (60, .int .i64 ((((((d0 + d8) + d9 : Nat) : Int) - ((d11 : Nat) : Int)) - ((d12 : Nat) : Int)) - ((d13 : Nat) : Int))), (61, .slice (some ⟨bk32, 8, none⟩) 8 8)] := En578.sb
  clear En578
  refine w_f hg 23 (s := Instr.indexAt 105 (.slice (some ⟨bk32, 8, none⟩) 8 8) (.int .i64 6)) (v := .pointer (some ⟨bk32, 14, none⟩)) En579 (fun _ => Go.Dbr.run_indexsl (ad := ⟨bk32, 8, none⟩) (e := 2) (sz := 1) (j := 6) (jo := 6) rfl (by kernel_rfl) (by kernel_rfl) (by omega) (by decide) (Nat.mul_one _) _) (wo231.pk [4]) fun ac580 En581 => ?_
  refine w_l hg 0 24 En581 (wo231.pk [4]) fun ac582 En583 => ?_
  refine w_s hg [25,26] [(25, g_n (w_r (e := (((((d0 + d8) + d9 : Nat) : Int) - ((d11 : Nat) : Int)) - ((d12 : Nat) : Int)) - ((d13 : Nat) : Int) - ((d14 : Nat) : Int)) (x := ((((((d0 + d8) + d9 : Nat) : Int) - ((d11 : Nat) : Int)) - ((d12 : Nat) : Int)) - ((d13 : Nat) : Int)) - ((d14 : Nat) : Int)) (by omega)))] 177 En583 (wo231.pk [4]) fun ac584 En585 => ?_
  refine w_l hg 0 27 En585 (wo231.pk [4]) fun ac586 En587 => ?_
  refine w_s hg [28] [] 175 En587 (wo231.pk [4]) fun ac588 En589 => ?_
  refine w_f hg 29 (s := Instr.indexAt 105 (.slice (some ⟨bk32, 8, none⟩) 8 8) (.int .i64 1)) (v := .pointer (some ⟨bk32, 9, none⟩)) En589 (fun _ => Go.Dbr.run_indexsl (ad := ⟨bk32, 8, none⟩) (e := 2) (sz := 1) (j := 1) (jo := 1) rfl (by kernel_rfl) (by kernel_rfl) (by omega) (by decide) (Nat.mul_one _) _) (wo231.pk [4]) fun ac590 En591 => ?_
  refine w_l hg 0 30 En591 (wo231.pk [4]) fun ac592 En593 => ?_
  refine w_s hg [31,32] [(31, g_n (w_a d1 d9))] 171 En593 (wo231.pk [4]) fun ac594 En595 => ?_
  refine w_f hg 33 (s := Instr.indexAt 105 (.slice (some ⟨bk32, 8, none⟩) 8 8) (.int .i64 2)) (v := .pointer (some ⟨bk32, 10, none⟩)) En595 (fun _ => Go.Dbr.run_indexsl (ad := ⟨bk32, 8, none⟩) (e := 2) (sz := 1) (j := 2) (jo := 2) rfl (by kernel_rfl) (by kernel_rfl) (by omega) (by decide) (Nat.mul_one _) _) (wo231.pk [4]) fun ac596 En597 => ?_
  refine w_l hg 0 34 En597 (wo231.pk [4]) fun ac598 En599 => ?_
  refine w_s hg [35,36] [(35, g_n (w_a (d1 + d9) d10))] 167 En599 (wo231.pk [4]) fun ac600 En601 => ?_
  refine w_f hg 37 (s := Instr.indexAt 105 (.slice (some ⟨bk32, 8, none⟩) 8 8) (.int .i64 4)) (v := .pointer (some ⟨bk32, 12, none⟩)) En601 (fun _ => Go.Dbr.run_indexsl (ad := ⟨bk32, 8, none⟩) (e := 2) (sz := 1) (j := 4) (jo := 4) rfl (by kernel_rfl) (by kernel_rfl) (by omega) (by decide) (Nat.mul_one _) _) (wo231.pk [4]) fun ac602 En603 => ?_
  refine w_l hg 0 38 En603 (wo231.pk [4]) fun ac604 En605 => ?_
  refine w_s hg [39,40] [(39, g_n (w_r (e := (((d1 + d9) + d10 : Nat) : Int) - ((d12 : Nat) : Int)) (x := (((d1 + d9) + d10 : Nat) : Int) - ((d12 : Nat) : Int)) (by omega)))] 163 En605 (wo231.pk [4]) fun ac606 En607 => ?_
  refine w_f hg 41 (s := Instr.indexAt 105 (.slice (some ⟨bk32, 8, none⟩) 8 8) (.int .i64 5)) (v := .pointer (some ⟨bk32, 13, none⟩)) En607 (fun _ => Go.Dbr.run_indexsl (ad := ⟨bk32, 8, none⟩) (e := 2) (sz := 1) (j := 5) (jo := 5) rfl (by kernel_rfl) (by kernel_rfl) (by omega) (by decide) (Nat.mul_one _) _) (wo231.pk [4]) fun ac608 En609 => ?_
  refine w_l hg 0 42 En609 (wo231.pk [4]) fun ac610 En611 => ?_
  refine w_s hg [43,44] [(43, g_n (w_r (e := (((d1 + d9) + d10 : Nat) : Int) - ((d12 : Nat) : Int) - ((d13 : Nat) : Int)) (x := ((((d1 + d9) + d10 : Nat) : Int) - ((d12 : Nat) : Int)) - ((d13 : Nat) : Int)) (by omega)))] 159 En611 (wo231.pk [4]) fun ac612 En613 => ?_
  refine w_f hg 45 (s := Instr.indexAt 105 (.slice (some ⟨bk32, 8, none⟩) 8 8) (.int .i64 6)) (v := .pointer (some ⟨bk32, 14, none⟩)) En613 (fun _ => Go.Dbr.run_indexsl (ad := ⟨bk32, 8, none⟩) (e := 2) (sz := 1) (j := 6) (jo := 6) rfl (by kernel_rfl) (by kernel_rfl) (by omega) (by decide) (Nat.mul_one _) _) (wo231.pk [4]) fun ac614 En615 => ?_
  refine w_l hg 0 46 En615 (wo231.pk [4]) fun ac616 En617 => ?_
  refine w_s hg [47,48] [(47, g_n (w_r (e := ((((d1 + d9) + d10 : Nat) : Int) - ((d12 : Nat) : Int)) - ((d13 : Nat) : Int) - ((d14 : Nat) : Int)) (x := (((((d1 + d9) + d10 : Nat) : Int) - ((d12 : Nat) : Int)) - ((d13 : Nat) : Int)) - ((d14 : Nat) : Int)) (by omega)))] 155 En617 (wo231.pk [4]) fun ac618 En619 => ?_
  refine w_f hg 49 (s := Instr.indexAt 105 (.slice (some ⟨bk32, 8, none⟩) 8 8) (.int .i64 7)) (v := .pointer (some ⟨bk32, 15, none⟩)) En619 (fun _ => Go.Dbr.run_indexsl (ad := ⟨bk32, 8, none⟩) (e := 2) (sz := 1) (j := 7) (jo := 7) rfl (by kernel_rfl) (by kernel_rfl) (by omega) (by decide) (Nat.mul_one _) _) (wo231.pk [4]) fun ac620 En621 => ?_
  refine w_l hg 0 50 En621 (wo231.pk [4]) fun ac622 En623 => ?_
  refine w_s hg [51,52] [(51, g_n (w_r (e := (((((d1 + d9) + d10 : Nat) : Int) - ((d12 : Nat) : Int)) - ((d13 : Nat) : Int)) - ((d14 : Nat) : Int) - ((d15 : Nat) : Int)) (x := ((((((d1 + d9) + d10 : Nat) : Int) - ((d12 : Nat) : Int)) - ((d13 : Nat) : Int)) - ((d14 : Nat) : Int)) - ((d15 : Nat) : Int)) (by omega)))] 151 En623 (wo231.pk [4]) fun ac624 En625 => ?_
  refine w_l hg 0 53 En625 (wo231.pk [4]) fun ac626 En627 => ?_
  refine w_s hg [54] [] 149 En627 (wo231.pk [4]) fun ac628 En629 => ?_
  refine w_f hg 55 (s := Instr.indexAt 105 (.slice (some ⟨bk32, 8, none⟩) 8 8) (.int .i64 2)) (v := .pointer (some ⟨bk32, 10, none⟩)) En629 (fun _ => Go.Dbr.run_indexsl (ad := ⟨bk32, 8, none⟩) (e := 2) (sz := 1) (j := 2) (jo := 2) rfl (by kernel_rfl) (by kernel_rfl) (by omega) (by decide) (Nat.mul_one _) _) (wo231.pk [4]) fun ac630 En631 => ?_
  refine w_l hg 0 56 En631 (wo231.pk [4]) fun ac632 En633 => ?_
  refine w_s hg [57,58] [(57, g_n (w_a d2 d10))] 145 En633 (wo231.pk [4]) fun ac634 En635 => ?_
  refine w_f hg 59 (s := Instr.indexAt 105 (.slice (some ⟨bk32, 8, none⟩) 8 8) (.int .i64 3)) (v := .pointer (some ⟨bk32, 11, none⟩)) En635 (fun _ => Go.Dbr.run_indexsl (ad := ⟨bk32, 8, none⟩) (e := 2) (sz := 1) (j := 3) (jo := 3) rfl (by kernel_rfl) (by kernel_rfl) (by omega) (by decide) (Nat.mul_one _) _) (wo231.pk [4]) fun ac636 En637 => ?_
  refine w_l hg 0 60 En637 (wo231.pk [4]) fun ac638 En639 => ?_
  refine w_s hg [61,62] [(61, g_n (w_a (d2 + d10) d11))] 141 En639 (wo231.pk [4]) fun ac640 En641 => ?_
  refine w_f hg 63 (s := Instr.indexAt 105 (.slice (some ⟨bk32, 8, none⟩) 8 8) (.int .i64 5)) (v := .pointer (some ⟨bk32, 13, none⟩)) En641 (fun _ => Go.Dbr.run_indexsl (ad := ⟨bk32, 8, none⟩) (e := 2) (sz := 1) (j := 5) (jo := 5) rfl (by kernel_rfl) (by kernel_rfl) (by omega) (by decide) (Nat.mul_one _) _) (wo231.pk [4]) fun ac642 En643 => ?_
  refine w_l hg 0 64 En643 (wo231.pk [4]) fun ac644 En645 => ?_
  refine w_s hg [65,66] [(65, g_n (w_r (e := (((d2 + d10) + d11 : Nat) : Int) - ((d13 : Nat) : Int)) (x := (((d2 + d10) + d11 : Nat) : Int) - ((d13 : Nat) : Int)) (by omega)))] 137 En645 (wo231.pk [4]) fun ac646 En647 => ?_
  have En648 : Env _ 296 [(4, pt bk11), (5, pt bk23), (6, pt bk32), (9, .slice (some ⟨bk32, 8, none⟩) 8 8), (19, .agg (List.toArray (u64s T))), (20, .int .i64 8), (64, .int .i64 (((((((d0 + d8) + d9 : Nat) : Int) - ((d11 : Nat) : Int)) - ((d12 : Nat) : Int)) - ((d13 : Nat) : Int)) - ((d14 : Nat) : Int))), (90, .int .i64 (((((((d1 + d9) + d10 : Nat) : Int) - ((d12 : Nat) : Int)) - ((d13 : Nat) : Int)) - ((d14 : Nat) : Int)) - ((d15 : Nat) : Int))), (104, .int .i64 ((((d2 + d10) + d11 : Nat) : Int) - ((d13 : Nat) : Int))), (105, .slice (some ⟨bk32, 8, none⟩) 8 8)] := En647.sb
  clear En647
  refine w_f hg 67 (s := Instr.indexAt 105 (.slice (some ⟨bk32, 8, none⟩) 8 8) (.int .i64 6)) (v := .pointer (some ⟨bk32, 14, none⟩)) En648 (fun _ => Go.Dbr.run_indexsl (ad := ⟨bk32, 8, none⟩) (e := 2) (sz := 1) (j := 6) (jo := 6) rfl (by kernel_rfl) (by kernel_rfl) (by omega) (by decide) (Nat.mul_one _) _) (wo231.pk [4]) fun ac649 En650 => ?_
  refine w_l hg 0 68 En650 (wo231.pk [4]) fun ac651 En652 => ?_
  refine w_s hg [69,70] [(69, g_n (w_r (e := (((d2 + d10) + d11 : Nat) : Int) - ((d13 : Nat) : Int) - ((d14 : Nat) : Int)) (x := ((((d2 + d10) + d11 : Nat) : Int) - ((d13 : Nat) : Int)) - ((d14 : Nat) : Int)) (by omega)))] 133 En652 (wo231.pk [4]) fun ac653 En654 => ?_
  refine w_f hg 71 (s := Instr.indexAt 105 (.slice (some ⟨bk32, 8, none⟩) 8 8) (.int .i64 7)) (v := .pointer (some ⟨bk32, 15, none⟩)) En654 (fun _ => Go.Dbr.run_indexsl (ad := ⟨bk32, 8, none⟩) (e := 2) (sz := 1) (j := 7) (jo := 7) rfl (by kernel_rfl) (by kernel_rfl) (by omega) (by decide) (Nat.mul_one _) _) (wo231.pk [4]) fun ac655 En656 => ?_
  refine w_l hg 0 72 En656 (wo231.pk [4]) fun ac657 En658 => ?_
  refine w_s hg [73,74] [(73, g_n (w_r (e := ((((d2 + d10) + d11 : Nat) : Int) - ((d13 : Nat) : Int)) - ((d14 : Nat) : Int) - ((d15 : Nat) : Int)) (x := (((((d2 + d10) + d11 : Nat) : Int) - ((d13 : Nat) : Int)) - ((d14 : Nat) : Int)) - ((d15 : Nat) : Int)) (by omega)))] 129 En658 (wo231.pk [4]) fun ac659 En660 => ?_
  refine w_l hg 0 75 En660 (wo231.pk [4]) fun ac661 En662 => ?_
  refine w_s hg [76] [] 127 En662 (wo231.pk [4]) fun ac663 En664 => ?_
  refine w_f hg 77 (s := Instr.indexAt 105 (.slice (some ⟨bk32, 8, none⟩) 8 8) (.int .i64 3)) (v := .pointer (some ⟨bk32, 11, none⟩)) En664 (fun _ => Go.Dbr.run_indexsl (ad := ⟨bk32, 8, none⟩) (e := 2) (sz := 1) (j := 3) (jo := 3) rfl (by kernel_rfl) (by kernel_rfl) (by omega) (by decide) (Nat.mul_one _) _) (wo231.pk [4]) fun ac665 En666 => ?_
  refine w_l hg 0 78 En666 (wo231.pk [4]) fun ac667 En668 => ?_
  refine w_s hg [79,80,81] [(79, g_n (w_m 2 d11)), (80, g_n (w_a d3 (2 * d11)))] 122 En668 (wo231.pk [4]) fun ac669 En670 => ?_
  refine w_f hg 82 (s := Instr.indexAt 105 (.slice (some ⟨bk32, 8, none⟩) 8 8) (.int .i64 4)) (v := .pointer (some ⟨bk32, 12, none⟩)) En670 (fun _ => Go.Dbr.run_indexsl (ad := ⟨bk32, 8, none⟩) (e := 2) (sz := 1) (j := 4) (jo := 4) rfl (by kernel_rfl) (by kernel_rfl) (by omega) (by decide) (Nat.mul_one _) _) (wo231.pk [4]) fun ac671 En672 => ?_
  refine w_l hg 0 83 En672 (wo231.pk [4]) fun ac673 En674 => ?_
  refine w_s hg [84,85,86] [(84, g_n (w_m 2 d12)), (85, g_n (w_a (d3 + (2 * d11)) (2 * d12)))] 117 En674 (wo231.pk [4]) fun ac675 En676 => ?_
  refine w_f hg 87 (s := Instr.indexAt 105 (.slice (some ⟨bk32, 8, none⟩) 8 8) (.int .i64 5)) (v := .pointer (some ⟨bk32, 13, none⟩)) En676 (fun _ => Go.Dbr.run_indexsl (ad := ⟨bk32, 8, none⟩) (e := 2) (sz := 1) (j := 5) (jo := 5) rfl (by kernel_rfl) (by kernel_rfl) (by omega) (by decide) (Nat.mul_one _) _) (wo231.pk [4]) fun ac677 En678 => ?_
  refine w_l hg 0 88 En678 (wo231.pk [4]) fun ac679 En680 => ?_
  refine w_s hg [89,90] [(89, g_n (w_a ((d3 + (2 * d11)) + (2 * d12)) d13))] 113 En680 (wo231.pk [4]) fun ac681 En682 => ?_
  refine w_f hg 91 (s := Instr.indexAt 105 (.slice (some ⟨bk32, 8, none⟩) 8 8) (.int .i64 7)) (v := .pointer (some ⟨bk32, 15, none⟩)) En682 (fun _ => Go.Dbr.run_indexsl (ad := ⟨bk32, 8, none⟩) (e := 2) (sz := 1) (j := 7) (jo := 7) rfl (by kernel_rfl) (by kernel_rfl) (by omega) (by decide) (Nat.mul_one _) _) (wo231.pk [4]) fun ac683 En684 => ?_
  refine w_l hg 0 92 En684 (wo231.pk [4]) fun ac685 En686 => ?_
  refine w_s hg [93,94] [(93, g_n (w_r (e := ((((d3 + (2 * d11)) + (2 * d12)) + d13 : Nat) : Int) - ((d15 : Nat) : Int)) (x := ((((d3 + (2 * d11)) + (2 * d12)) + d13 : Nat) : Int) - ((d15 : Nat) : Int)) (by omega)))] 109 En686 (wo231.pk [4]) fun ac687 En688 => ?_
  refine w_f hg 95 (s := Instr.indexAt 105 (.slice (some ⟨bk32, 8, none⟩) 8 8) (.int .i64 0)) (v := .pointer (some ⟨bk32, 8, none⟩)) En688 (fun _ => Go.Dbr.run_indexsl (ad := ⟨bk32, 8, none⟩) (e := 2) (sz := 1) (j := 0) (jo := 0) rfl (by kernel_rfl) (by kernel_rfl) (by omega) (by decide) (Nat.mul_one _) _) (wo231.pk [4]) fun ac689 En690 => ?_
  refine w_l hg 0 96 En690 (wo231.pk [4]) fun ac691 En692 => ?_
  refine w_s hg [97,98] [(97, g_n (w_r (e := ((((d3 + (2 * d11)) + (2 * d12)) + d13 : Nat) : Int) - ((d15 : Nat) : Int) - ((d8 : Nat) : Int)) (x := (((((d3 + (2 * d11)) + (2 * d12)) + d13 : Nat) : Int) - ((d15 : Nat) : Int)) - ((d8 : Nat) : Int)) (by omega)))] 105 En692 (wo231.pk [4]) fun ac693 En694 => ?_
  refine w_f hg 99 (s := Instr.indexAt 105 (.slice (some ⟨bk32, 8, none⟩) 8 8) (.int .i64 1)) (v := .pointer (some ⟨bk32, 9, none⟩)) En694 (fun _ => Go.Dbr.run_indexsl (ad := ⟨bk32, 8, none⟩) (e := 2) (sz := 1) (j := 1) (jo := 1) rfl (by kernel_rfl) (by kernel_rfl) (by omega) (by decide) (Nat.mul_one _) _) (wo231.pk [4]) fun ac695 En696 => ?_
  refine w_l hg 0 100 En696 (wo231.pk [4]) fun ac697 En698 => ?_
  refine w_s hg [101,102] [(101, g_n (w_r (e := (((((d3 + (2 * d11)) + (2 * d12)) + d13 : Nat) : Int) - ((d15 : Nat) : Int)) - ((d8 : Nat) : Int) - ((d9 : Nat) : Int)) (x := ((((((d3 + (2 * d11)) + (2 * d12)) + d13 : Nat) : Int) - ((d15 : Nat) : Int)) - ((d8 : Nat) : Int)) - ((d9 : Nat) : Int)) (by omega)))] 101 En698 (wo231.pk [4]) fun ac699 En700 => ?_
  refine w_l hg 0 103 En700 (wo231.pk [4]) fun ac701 En702 => ?_
  refine w_s hg [104] [] 99 En702 (wo231.pk [4]) fun ac703 En704 => ?_
  refine w_f hg 105 (s := Instr.indexAt 105 (.slice (some ⟨bk32, 8, none⟩) 8 8) (.int .i64 4)) (v := .pointer (some ⟨bk32, 12, none⟩)) En704 (fun _ => Go.Dbr.run_indexsl (ad := ⟨bk32, 8, none⟩) (e := 2) (sz := 1) (j := 4) (jo := 4) rfl (by kernel_rfl) (by kernel_rfl) (by omega) (by decide) (Nat.mul_one _) _) (wo231.pk [4]) fun ac705 En706 => ?_
  refine w_l hg 0 106 En706 (wo231.pk [4]) fun ac707 En708 => ?_
  refine w_s hg [107,108,109] [(107, g_n (w_m 2 d12)), (108, g_n (w_a d4 (2 * d12)))] 94 En708 (wo231.pk [4]) fun ac709 En710 => ?_
  refine w_f hg 110 (s := Instr.indexAt 105 (.slice (some ⟨bk32, 8, none⟩) 8 8) (.int .i64 5)) (v := .pointer (some ⟨bk32, 13, none⟩)) En710 (fun _ => Go.Dbr.run_indexsl (ad := ⟨bk32, 8, none⟩) (e := 2) (sz := 1) (j := 5) (jo := 5) rfl (by kernel_rfl) (by kernel_rfl) (by omega) (by decide) (Nat.mul_one _) _) (wo231.pk [4]) fun ac711 En712 => ?_
  refine w_l hg 0 111 En712 (wo231.pk [4]) fun ac713 En714 => ?_
  refine w_s hg [112,113,114] [(112, g_n (w_m 2 d13)), (113, g_n (w_a (d4 + (2 * d12)) (2 * d13)))] 89 En714 (wo231.pk [4]) fun ac715 En716 => ?_
  have En717 : Env _ 296 [(4, pt bk11), (5, pt bk23), (6, pt bk32), (9, .slice (some ⟨bk32, 8, none⟩) 8 8), (19, .agg (List.toArray (u64s T))), (20, .int .i64 8), (64, .int .i64 (((((((d0 + d8) + d9 : Nat) : Int) - ((d11 : Nat) : Int)) - ((d12 : Nat) : Int)) - ((d13 : Nat) : Int)) - ((d14 : Nat) : Int))), (90, .int .i64 (((((((d1 + d9) + d10 : Nat) : Int) - ((d12 : Nat) : Int)) - ((d13 : Nat) : Int)) - ((d14 : Nat) : Int)) - ((d15 : Nat) : Int))), (112, .int .i64 ((((((d2 + d10) + d11 : Nat) : Int) - ((d13 : Nat) : Int)) - ((d14 : Nat) : Int)) - ((d15 : Nat) : Int))), (140, .int .i64 (((((((d3 + (2 * d11)) + (2 * d12)) + d13 : Nat) : Int) - ((d15 : Nat) : Int)) - ((d8 : Nat) : Int)) - ((d9 : Nat) : Int))), (152, ni ((d4 + (2 * d12)) + (2 * d13))), (153, .slice (some ⟨bk32, 8, none⟩) 8 8)] := En716.sb
  clear En716
  refine w_f hg 115 (s := Instr.indexAt 105 (.slice (some ⟨bk32, 8, none⟩) 8 8) (.int .i64 6)) (v := .pointer (some ⟨bk32, 14, none⟩)) En717 (fun _ => Go.Dbr.run_indexsl (ad := ⟨bk32, 8, none⟩) (e := 2) (sz := 1) (j := 6) (jo := 6) rfl (by kernel_rfl) (by kernel_rfl) (by omega) (by decide) (Nat.mul_one _) _) (wo231.pk [4]) fun ac718 En719 => ?_
  refine w_l hg 0 116 En719 (wo231.pk [4]) fun ac720 En721 => ?_
  refine w_s hg [117,118] [(117, g_n (w_a ((d4 + (2 * d12)) + (2 * d13)) d14))] 85 En721 (wo231.pk [4]) fun ac722 En723 => ?_
  refine w_f hg 119 (s := Instr.indexAt 105 (.slice (some ⟨bk32, 8, none⟩) 8 8) (.int .i64 1)) (v := .pointer (some ⟨bk32, 9, none⟩)) En723 (fun _ => Go.Dbr.run_indexsl (ad := ⟨bk32, 8, none⟩) (e := 2) (sz := 1) (j := 1) (jo := 1) rfl (by kernel_rfl) (by kernel_rfl) (by omega) (by decide) (Nat.mul_one _) _) (wo231.pk [4]) fun ac724 En725 => ?_
  refine w_l hg 0 120 En725 (wo231.pk [4]) fun ac726 En727 => ?_
  refine w_s hg [121,122] [(121, g_n (w_r (e := ((((d4 + (2 * d12)) + (2 * d13)) + d14 : Nat) : Int) - ((d9 : Nat) : Int)) (x := ((((d4 + (2 * d12)) + (2 * d13)) + d14 : Nat) : Int) - ((d9 : Nat) : Int)) (by omega)))] 81 En727 (wo231.pk [4]) fun ac728 En729 => ?_
  refine w_f hg 123 (s := Instr.indexAt 105 (.slice (some ⟨bk32, 8, none⟩) 8 8) (.int .i64 2)) (v := .pointer (some ⟨bk32, 10, none⟩)) En729 (fun _ => Go.Dbr.run_indexsl (ad := ⟨bk32, 8, none⟩) (e := 2) (sz := 1) (j := 2) (jo := 2) rfl (by kernel_rfl) (by kernel_rfl) (by omega) (by decide) (Nat.mul_one _) _) (wo231.pk [4]) fun ac730 En731 => ?_
  refine w_l hg 0 124 En731 (wo231.pk [4]) fun ac732 En733 => ?_
  refine w_s hg [125,126] [(125, g_n (w_r (e := ((((d4 + (2 * d12)) + (2 * d13)) + d14 : Nat) : Int) - ((d9 : Nat) : Int) - ((d10 : Nat) : Int)) (x := (((((d4 + (2 * d12)) + (2 * d13)) + d14 : Nat) : Int) - ((d9 : Nat) : Int)) - ((d10 : Nat) : Int)) (by omega)))] 77 En733 (wo231.pk [4]) fun ac734 En735 => ?_
  refine w_l hg 0 127 En735 (wo231.pk [4]) fun ac736 En737 => ?_
  refine w_s hg [128] [] 75 En737 (wo231.pk [4]) fun ac738 En739 => ?_
  refine w_f hg 129 (s := Instr.indexAt 105 (.slice (some ⟨bk32, 8, none⟩) 8 8) (.int .i64 5)) (v := .pointer (some ⟨bk32, 13, none⟩)) En739 (fun _ => Go.Dbr.run_indexsl (ad := ⟨bk32, 8, none⟩) (e := 2) (sz := 1) (j := 5) (jo := 5) rfl (by kernel_rfl) (by kernel_rfl) (by omega) (by decide) (Nat.mul_one _) _) (wo231.pk [4]) fun ac740 En741 => ?_
  refine w_l hg 0 130 En741 (wo231.pk [4]) fun ac742 En743 => ?_
  refine w_s hg [131,132,133] [(131, g_n (w_m 2 d13)), (132, g_n (w_a d5 (2 * d13)))] 70 En743 (wo231.pk [4]) fun ac744 En745 => ?_
  refine w_f hg 134 (s := Instr.indexAt 105 (.slice (some ⟨bk32, 8, none⟩) 8 8) (.int .i64 6)) (v := .pointer (some ⟨bk32, 14, none⟩)) En745 (fun _ => Go.Dbr.run_indexsl (ad := ⟨bk32, 8, none⟩) (e := 2) (sz := 1) (j := 6) (jo := 6) rfl (by kernel_rfl) (by kernel_rfl) (by omega) (by decide) (Nat.mul_one _) _) (wo231.pk [4]) fun ac746 En747 => ?_
  refine w_l hg 0 135 En747 (wo231.pk [4]) fun ac748 En749 => ?_
  refine w_s hg [136,137,138] [(136, g_n (w_m 2 d14)), (137, g_n (w_a (d5 + (2 * d13)) (2 * d14)))] 65 En749 (wo231.pk [4]) fun ac750 En751 => ?_
  refine w_f hg 139 (s := Instr.indexAt 105 (.slice (some ⟨bk32, 8, none⟩) 8 8) (.int .i64 7)) (v := .pointer (some ⟨bk32, 15, none⟩)) En751 (fun _ => Go.Dbr.run_indexsl (ad := ⟨bk32, 8, none⟩) (e := 2) (sz := 1) (j := 7) (jo := 7) rfl (by kernel_rfl) (by kernel_rfl) (by omega) (by decide) (Nat.mul_one _) _) (wo231.pk [4]) fun ac752 En753 => ?_
  refine w_l hg 0 140 En753 (wo231.pk [4]) fun ac754 En755 => ?_
  refine w_s hg [141,142] [(141, g_n (w_a ((d5 + (2 * d13)) + (2 * d14)) d15))] 61 En755 (wo231.pk [4]) fun ac756 En757 => ?_
  refine w_f hg 143 (s := Instr.indexAt 105 (.slice (some ⟨bk32, 8, none⟩) 8 8) (.int .i64 2)) (v := .pointer (some ⟨bk32, 10, none⟩)) En757 (fun _ => Go.Dbr.run_indexsl (ad := ⟨bk32, 8, none⟩) (e := 2) (sz := 1) (j := 2) (jo := 2) rfl (by kernel_rfl) (by kernel_rfl) (by omega) (by decide) (Nat.mul_one _) _) (wo231.pk [4]) fun ac758 En759 => ?_
  refine w_l hg 0 144 En759 (wo231.pk [4]) fun ac760 En761 => ?_
  refine w_s hg [145,146] [(145, g_n (w_r (e := ((((d5 + (2 * d13)) + (2 * d14)) + d15 : Nat) : Int) - ((d10 : Nat) : Int)) (x := ((((d5 + (2 * d13)) + (2 * d14)) + d15 : Nat) : Int) - ((d10 : Nat) : Int)) (by omega)))] 57 En761 (wo231.pk [4]) fun ac762 En763 => ?_
  refine w_f hg 147 (s := Instr.indexAt 105 (.slice (some ⟨bk32, 8, none⟩) 8 8) (.int .i64 3)) (v := .pointer (some ⟨bk32, 11, none⟩)) En763 (fun _ => Go.Dbr.run_indexsl (ad := ⟨bk32, 8, none⟩) (e := 2) (sz := 1) (j := 3) (jo := 3) rfl (by kernel_rfl) (by kernel_rfl) (by omega) (by decide) (Nat.mul_one _) _) (wo231.pk [4]) fun ac764 En765 => ?_
  refine w_l hg 0 148 En765 (wo231.pk [4]) fun ac766 En767 => ?_
  refine w_s hg [149,150] [(149, g_n (w_r (e := ((((d5 + (2 * d13)) + (2 * d14)) + d15 : Nat) : Int) - ((d10 : Nat) : Int) - ((d11 : Nat) : Int)) (x := (((((d5 + (2 * d13)) + (2 * d14)) + d15 : Nat) : Int) - ((d10 : Nat) : Int)) - ((d11 : Nat) : Int)) (by omega)))] 53 En767 (wo231.pk [4]) fun ac768 En769 => ?_
  refine w_l hg 0 151 En769 (wo231.pk [4]) fun ac770 En771 => ?_
  refine w_s hg [152] [] 51 En771 (wo231.pk [4]) fun ac772 En773 => ?_
  refine w_f hg 153 (s := Instr.indexAt 105 (.slice (some ⟨bk32, 8, none⟩) 8 8) (.int .i64 6)) (v := .pointer (some ⟨bk32, 14, none⟩)) En773 (fun _ => Go.Dbr.run_indexsl (ad := ⟨bk32, 8, none⟩) (e := 2) (sz := 1) (j := 6) (jo := 6) rfl (by kernel_rfl) (by kernel_rfl) (by omega) (by decide) (Nat.mul_one _) _) (wo231.pk [4]) fun ac774 En775 => ?_
  refine w_l hg 0 154 En775 (wo231.pk [4]) fun ac776 En777 => ?_
  refine w_s hg [155,156,157] [(155, g_n (w_m 3 d14)), (156, g_n (w_a d6 (3 * d14)))] 46 En777 (wo231.pk [4]) fun ac778 En779 => ?_
  refine w_f hg 158 (s := Instr.indexAt 105 (.slice (some ⟨bk32, 8, none⟩) 8 8) (.int .i64 7)) (v := .pointer (some ⟨bk32, 15, none⟩)) En779 (fun _ => Go.Dbr.run_indexsl (ad := ⟨bk32, 8, none⟩) (e := 2) (sz := 1) (j := 7) (jo := 7) rfl (by kernel_rfl) (by kernel_rfl) (by omega) (by decide) (Nat.mul_one _) _) (wo231.pk [4]) fun ac780 En781 => ?_
  refine w_l hg 0 159 En781 (wo231.pk [4]) fun ac782 En783 => ?_
  refine w_s hg [160,161,162] [(160, g_n (w_m 2 d15)), (161, g_n (w_a (d6 + (3 * d14)) (2 * d15)))] 41 En783 (wo231.pk [4]) fun ac784 En785 => ?_
  have En786 : Env _ 296 [(4, pt bk11), (5, pt bk23), (6, pt bk32), (9, .slice (some ⟨bk32, 8, none⟩) 8 8), (19, .agg (List.toArray (u64s T))), (20, .int .i64 8), (64, .int .i64 (((((((d0 + d8) + d9 : Nat) : Int) - ((d11 : Nat) : Int)) - ((d12 : Nat) : Int)) - ((d13 : Nat) : Int)) - ((d14 : Nat) : Int))), (90, .int .i64 (((((((d1 + d9) + d10 : Nat) : Int) - ((d12 : Nat) : Int)) - ((d13 : Nat) : Int)) - ((d14 : Nat) : Int)) - ((d15 : Nat) : Int))), (112, .int .i64 ((((((d2 + d10) + d11 : Nat) : Int) - ((d13 : Nat) : Int)) - ((d14 : Nat) : Int)) - ((d15 : Nat) : Int))), (140, .int .i64 (((((((d3 + (2 * d11)) + (2 * d12)) + d13 : Nat) : Int) - ((d15 : Nat) : Int)) - ((d8 : Nat) : Int)) - ((d9 : Nat) : Int))), (164, .int .i64 ((((((d4 + (2 * d12)) + (2 * d13)) + d14 : Nat) : Int) - ((d9 : Nat) : Int)) - ((d10 : Nat) : Int))), (188, .int .i64 ((((((d5 + (2 * d13)) + (2 * d14)) + d15 : Nat) : Int) - ((d10 : Nat) : Int)) - ((d11 : Nat) : Int))), (200, ni ((d6 + (3 * d14)) + (2 * d15))), (201, .slice (some ⟨bk32, 8, none⟩) 8 8)] := En785.sb
  clear En785
  refine w_f hg 163 (s := Instr.indexAt 105 (.slice (some ⟨bk32, 8, none⟩) 8 8) (.int .i64 5)) (v := .pointer (some ⟨bk32, 13, none⟩)) En786 (fun _ => Go.Dbr.run_indexsl (ad := ⟨bk32, 8, none⟩) (e := 2) (sz := 1) (j := 5) (jo := 5) rfl (by kernel_rfl) (by kernel_rfl) (by omega) (by decide) (Nat.mul_one _) _) (wo231.pk [4]) fun ac787 En788 => ?_
  refine w_l hg 0 164 En788 (wo231.pk [4]) fun ac789 En790 => ?_
  refine w_s hg [165,166] [(165, g_n (w_a ((d6 + (3 * d14)) + (2 * d15)) d13))] 37 En790 (wo231.pk [4]) fun ac791 En792 => ?_
  refine w_f hg 167 (s := Instr.indexAt 105 (.slice (some ⟨bk32, 8, none⟩) 8 8) (.int .i64 0)) (v := .pointer (some ⟨bk32, 8, none⟩)) En792 (fun _ => Go.Dbr.run_indexsl (ad := ⟨bk32, 8, none⟩) (e := 2) (sz := 1) (j := 0) (jo := 0) rfl (by kernel_rfl) (by kernel_rfl) (by omega) (by decide) (Nat.mul_one _) _) (wo231.pk [4]) fun ac793 En794 => ?_
  refine w_l hg 0 168 En794 (wo231.pk [4]) fun ac795 En796 => ?_
  refine w_s hg [169,170] [(169, g_n (w_r (e := ((((d6 + (3 * d14)) + (2 * d15)) + d13 : Nat) : Int) - ((d8 : Nat) : Int)) (x := ((((d6 + (3 * d14)) + (2 * d15)) + d13 : Nat) : Int) - ((d8 : Nat) : Int)) (by omega)))] 33 En796 (wo231.pk [4]) fun ac797 En798 => ?_
  refine w_f hg 171 (s := Instr.indexAt 105 (.slice (some ⟨bk32, 8, none⟩) 8 8) (.int .i64 1)) (v := .pointer (some ⟨bk32, 9, none⟩)) En798 (fun _ => Go.Dbr.run_indexsl (ad := ⟨bk32, 8, none⟩) (e := 2) (sz := 1) (j := 1) (jo := 1) rfl (by kernel_rfl) (by kernel_rfl) (by omega) (by decide) (Nat.mul_one _) _) (wo231.pk [4]) fun ac799 En800 => ?_
  refine w_l hg 0 172 En800 (wo231.pk [4]) fun ac801 En802 => ?_
  refine w_s hg [173,174] [(173, g_n (w_r (e := ((((d6 + (3 * d14)) + (2 * d15)) + d13 : Nat) : Int) - ((d8 : Nat) : Int) - ((d9 : Nat) : Int)) (x := (((((d6 + (3 * d14)) + (2 * d15)) + d13 : Nat) : Int) - ((d8 : Nat) : Int)) - ((d9 : Nat) : Int)) (by omega)))] 29 En802 (wo231.pk [4]) fun ac803 En804 => ?_
  refine w_l hg 0 175 En804 (wo231.pk [4]) fun ac805 En806 => ?_
  refine w_s hg [176] [] 27 En806 (wo231.pk [4]) fun ac807 En808 => ?_
  refine w_f hg 177 (s := Instr.indexAt 105 (.slice (some ⟨bk32, 8, none⟩) 8 8) (.int .i64 7)) (v := .pointer (some ⟨bk32, 15, none⟩)) En808 (fun _ => Go.Dbr.run_indexsl (ad := ⟨bk32, 8, none⟩) (e := 2) (sz := 1) (j := 7) (jo := 7) rfl (by kernel_rfl) (by kernel_rfl) (by omega) (by decide) (Nat.mul_one _) _) (wo231.pk [4]) fun ac809 En810 => ?_
  refine w_l hg 0 178 En810 (wo231.pk [4]) fun ac811 En812 => ?_
  refine w_s hg [179,180,181] [(179, g_n (w_m 3 d15)), (180, g_n (w_a d7 (3 * d15)))] 22 En812 (wo231.pk [4]) fun ac813 En814 => ?_
  refine w_f hg 182 (s := Instr.indexAt 105 (.slice (some ⟨bk32, 8, none⟩) 8 8) (.int .i64 0)) (v := .pointer (some ⟨bk32, 8, none⟩)) En814 (fun _ => Go.Dbr.run_indexsl (ad := ⟨bk32, 8, none⟩) (e := 2) (sz := 1) (j := 0) (jo := 0) rfl (by kernel_rfl) (by kernel_rfl) (by omega) (by decide) (Nat.mul_one _) _) (wo231.pk [4]) fun ac815 En816 => ?_
  refine w_l hg 0 183 En816 (wo231.pk [4]) fun ac817 En818 => ?_
  refine w_s hg [184,185] [(184, g_n (w_a (d7 + (3 * d15)) d8))] 18 En818 (wo231.pk [4]) fun ac819 En820 => ?_
  refine w_f hg 186 (s := Instr.indexAt 105 (.slice (some ⟨bk32, 8, none⟩) 8 8) (.int .i64 2)) (v := .pointer (some ⟨bk32, 10, none⟩)) En820 (fun _ => Go.Dbr.run_indexsl (ad := ⟨bk32, 8, none⟩) (e := 2) (sz := 1) (j := 2) (jo := 2) rfl (by kernel_rfl) (by kernel_rfl) (by omega) (by decide) (Nat.mul_one _) _) (wo231.pk [4]) fun ac821 En822 => ?_
  refine w_l hg 0 187 En822 (wo231.pk [4]) fun ac823 En824 => ?_
  refine w_s hg [188,189] [(188, g_n (w_r (e := (((d7 + (3 * d15)) + d8 : Nat) : Int) - ((d10 : Nat) : Int)) (x := (((d7 + (3 * d15)) + d8 : Nat) : Int) - ((d10 : Nat) : Int)) (by omega)))] 14 En824 (wo231.pk [4]) fun ac825 En826 => ?_
  refine w_f hg 190 (s := Instr.indexAt 105 (.slice (some ⟨bk32, 8, none⟩) 8 8) (.int .i64 3)) (v := .pointer (some ⟨bk32, 11, none⟩)) En826 (fun _ => Go.Dbr.run_indexsl (ad := ⟨bk32, 8, none⟩) (e := 2) (sz := 1) (j := 3) (jo := 3) rfl (by kernel_rfl) (by kernel_rfl) (by omega) (by decide) (Nat.mul_one _) _) (wo231.pk [4]) fun ac827 En828 => ?_
  refine w_l hg 0 191 En828 (wo231.pk [4]) fun ac829 En830 => ?_
  refine w_s hg [192,193] [(192, g_n (w_r (e := (((d7 + (3 * d15)) + d8 : Nat) : Int) - ((d10 : Nat) : Int) - ((d11 : Nat) : Int)) (x := ((((d7 + (3 * d15)) + d8 : Nat) : Int) - ((d10 : Nat) : Int)) - ((d11 : Nat) : Int)) (by omega)))] 10 En830 (wo231.pk [4]) fun ac831 En832 => ?_
  refine w_f hg 194 (s := Instr.indexAt 105 (.slice (some ⟨bk32, 8, none⟩) 8 8) (.int .i64 4)) (v := .pointer (some ⟨bk32, 12, none⟩)) En832 (fun _ => Go.Dbr.run_indexsl (ad := ⟨bk32, 8, none⟩) (e := 2) (sz := 1) (j := 4) (jo := 4) rfl (by kernel_rfl) (by kernel_rfl) (by omega) (by decide) (Nat.mul_one _) _) (wo231.pk [4]) fun ac833 En834 => ?_
  refine w_l hg 0 195 En834 (wo231.pk [4]) fun ac835 En836 => ?_
  refine w_s hg [196,197] [(196, g_n (w_r (e := ((((d7 + (3 * d15)) + d8 : Nat) : Int) - ((d10 : Nat) : Int)) - ((d11 : Nat) : Int) - ((d12 : Nat) : Int)) (x := (((((d7 + (3 * d15)) + d8 : Nat) : Int) - ((d10 : Nat) : Int)) - ((d11 : Nat) : Int)) - ((d12 : Nat) : Int)) (by omega)))] 6 En836 (wo231.pk [4]) fun ac837 En838 => ?_
  refine w_f hg 198 (s := Instr.indexAt 105 (.slice (some ⟨bk32, 8, none⟩) 8 8) (.int .i64 5)) (v := .pointer (some ⟨bk32, 13, none⟩)) En838 (fun _ => Go.Dbr.run_indexsl (ad := ⟨bk32, 8, none⟩) (e := 2) (sz := 1) (j := 5) (jo := 5) rfl (by kernel_rfl) (by kernel_rfl) (by omega) (by decide) (Nat.mul_one _) _) (wo231.pk [4]) fun ac839 En840 => ?_
  refine w_l hg 0 199 En840 (wo231.pk [4]) fun ac841 En842 => ?_
  refine w_s hg [200,201] [(200, g_n (w_r (e := (((((d7 + (3 * d15)) + d8 : Nat) : Int) - ((d10 : Nat) : Int)) - ((d11 : Nat) : Int)) - ((d12 : Nat) : Int) - ((d13 : Nat) : Int)) (x := ((((((d7 + (3 * d15)) + d8 : Nat) : Int) - ((d10 : Nat) : Int)) - ((d11 : Nat) : Int)) - ((d12 : Nat) : Int)) - ((d13 : Nat) : Int)) (by omega)))] 2 En842 (wo231.pk [4]) fun ac843 En844 => ?_
  refine w_out ?_
  refine q_t 202 ?_
  refine m_z 106 (i64s (List.replicate 8 0)) En844 wo231 fun ac846 wo847 bk845 En848 Hv849 => ?_
  refine ⟨fun _ => Hv849.pk [4], ?_⟩
  refine q_t 203 ?_
  refine m_g 5 0 8 [.int .i64 (((((((d0 + d8) + d9 : Nat) : Int) - ((d11 : Nat) : Int)) - ((d12 : Nat) : Int)) - ((d13 : Nat) : Int)) - ((d14 : Nat) : Int)), .int .i64 (((((((d1 + d9) + d10 : Nat) : Int) - ((d12 : Nat) : Int)) - ((d13 : Nat) : Int)) - ((d14 : Nat) : Int)) - ((d15 : Nat) : Int)), .int .i64 ((((((d2 + d10) + d11 : Nat) : Int) - ((d13 : Nat) : Int)) - ((d14 : Nat) : Int)) - ((d15 : Nat) : Int)), .int .i64 (((((((d3 + (2 * d11)) + (2 * d12)) + d13 : Nat) : Int) - ((d15 : Nat) : Int)) - ((d8 : Nat) : Int)) - ((d9 : Nat) : Int)), .int .i64 ((((((d4 + (2 * d12)) + (2 * d13)) + d14 : Nat) : Int) - ((d9 : Nat) : Int)) - ((d10 : Nat) : Int)), .int .i64 ((((((d5 + (2 * d13)) + (2 * d14)) + d15 : Nat) : Int) - ((d10 : Nat) : Int)) - ((d11 : Nat) : Int)), .int .i64 ((((((d6 + (3 * d14)) + (2 * d15)) + d13 : Nat) : Int) - ((d8 : Nat) : Int)) - ((d9 : Nat) : Int)), .int .i64 (((((((d7 + (3 * d15)) + d8 : Nat) : Int) - ((d10 : Nat) : Int)) - ((d11 : Nat) : Int)) - ((d12 : Nat) : Int)) - ((d13 : Nat) : Int))] [.int .i64 (((((((d0 + d8) + d9 : Nat) : Int) - ((d11 : Nat) : Int)) - ((d12 : Nat) : Int)) - ((d13 : Nat) : Int)) - ((d14 : Nat) : Int)), .int .i64 (((((((d1 + d9) + d10 : Nat) : Int) - ((d12 : Nat) : Int)) - ((d13 : Nat) : Int)) - ((d14 : Nat) : Int)) - ((d15 : Nat) : Int)), .int .i64 ((((((d2 + d10) + d11 : Nat) : Int) - ((d13 : Nat) : Int)) - ((d14 : Nat) : Int)) - ((d15 : Nat) : Int)), .int .i64 (((((((d3 + (2 * d11)) + (2 * d12)) + d13 : Nat) : Int) - ((d15 : Nat) : Int)) - ((d8 : Nat) : Int)) - ((d9 : Nat) : Int)), .int .i64 ((((((d4 + (2 * d12)) + (2 * d13)) + d14 : Nat) : Int) - ((d9 : Nat) : Int)) - ((d10 : Nat) : Int)), .int .i64 ((((((d5 + (2 * d13)) + (2 * d14)) + d15 : Nat) : Int) - ((d10 : Nat) : Int)) - ((d11 : Nat) : Int)), .int .i64 ((((((d6 + (3 * d14)) + (2 * d15)) + d13 : Nat) : Int) - ((d8 : Nat) : Int)) - ((d9 : Nat) : Int)), .int .i64 (((((((d7 + (3 * d15)) + d8 : Nat) : Int) - ((d10 : Nat) : Int)) - ((d11 : Nat) : Int)) - ((d12 : Nat) : Int)) - ((d13 : Nat) : Int))] [.box bk1 (u64s a) 24, .box bk6 (u64s b) 24, .box bk11 (u64s (List.replicate 4 0)) 24, .box bk23 (u64s T) 84, .box bk32 [ni d0, ni d1, ni d2, ni d3, ni d4, ni d5, ni d6, ni d7, ni d8, ni d9, ni d10, ni d11, ni d12, ni d13, ni d14, ni d15] 104, .box bk845 [.int .i64 (((((((d0 + d8) + d9 : Nat) : Int) - ((d11 : Nat) : Int)) - ((d12 : Nat) : Int)) - ((d13 : Nat) : Int)) - ((d14 : Nat) : Int)), .int .i64 (((((((d1 + d9) + d10 : Nat) : Int) - ((d12 : Nat) : Int)) - ((d13 : Nat) : Int)) - ((d14 : Nat) : Int)) - ((d15 : Nat) : Int)), .int .i64 ((((((d2 + d10) + d11 : Nat) : Int) - ((d13 : Nat) : Int)) - ((d14 : Nat) : Int)) - ((d15 : Nat) : Int)), .int .i64 (((((((d3 + (2 * d11)) + (2 * d12)) + d13 : Nat) : Int) - ((d15 : Nat) : Int)) - ((d8 : Nat) : Int)) - ((d9 : Nat) : Int)), .int .i64 ((((((d4 + (2 * d12)) + (2 * d13)) + d14 : Nat) : Int) - ((d9 : Nat) : Int)) - ((d10 : Nat) : Int)), .int .i64 ((((((d5 + (2 * d13)) + (2 * d14)) + d15 : Nat) : Int) - ((d10 : Nat) : Int)) - ((d11 : Nat) : Int)), .int .i64 ((((((d6 + (3 * d14)) + (2 * d15)) + d13 : Nat) : Int) - ((d8 : Nat) : Int)) - ((d9 : Nat) : Int)), .int .i64 (((((((d7 + (3 * d15)) + d8 : Nat) : Int) - ((d10 : Nat) : Int)) - ((d11 : Nat) : Int)) - ((d12 : Nat) : Int)) - ((d13 : Nat) : Int))] 106] En848 Hv849 rfl rfl (by rw [(i64s_lenh (List.length_replicate))]; decide) (one_all (by kernel_rfl)) (store_whole (i64s_lenh (List.length_replicate))) rfl fun ac850 wo851 En852 Hv853 => ?_
  refine ⟨fun _ => Hv853.pk [4], ?_⟩
  exact h_e ⟨bk845, En852.sb, Hv853.pk [2, 3, 4, 5]⟩
 rintro ac854 wo855 ⟨bk534, En856, Hv857⟩
 obtain ⟨s0, hs0⟩ : ∃ z : Int, z = ((((((d0 + d8) + d9 : Nat) : Int) - ((d11 : Nat) : Int)) - ((d12 : Nat) : Int)) - ((d13 : Nat) : Int)) - ((d14 : Nat) : Int) := ⟨_, rfl⟩
 rw [← hs0] at Hv857
 obtain ⟨hsb0, hsr0⟩ := p256_row0 hb0 hb8 hb9 hb11 hb12 hb13 hb14 hs0
 clear hs0
 obtain ⟨s1, hs1⟩ : ∃ z : Int, z = ((((((d1 + d9) + d10 : Nat) : Int) - ((d12 : Nat) : Int)) - ((d13 : Nat) : Int)) - ((d14 : Nat) : Int)) - ((d15 : Nat) : Int) := ⟨_, rfl⟩
 rw [← hs1] at Hv857
 obtain ⟨hsb1, hsr1⟩ := p256_row1 hb1 hb9 hb10 hb12 hb13 hb14 hb15 hs1
 clear hs1
 obtain ⟨s2, hs2⟩ : ∃ z : Int, z = (((((d2 + d10) + d11 : Nat) : Int) - ((d13 : Nat) : Int)) - ((d14 : Nat) : Int)) - ((d15 : Nat) : Int) := ⟨_, rfl⟩
 rw [← hs2] at Hv857
 obtain ⟨hsb2, hsr2⟩ := p256_row2 hb2 hb10 hb11 hb13 hb14 hb15 hs2
 clear hs2
 obtain ⟨s3, hs3⟩ : ∃ z : Int, z = ((((((d3 + (2 * d11)) + (2 * d12)) + d13 : Nat) : Int) - ((d15 : Nat) : Int)) - ((d8 : Nat) : Int)) - ((d9 : Nat) : Int) := ⟨_, rfl⟩
 rw [← hs3] at Hv857
 obtain ⟨hsb3, hsr3⟩ := p256_row3 hb3 hb8 hb9 hb11 hb12 hb13 hb15 hs3
 clear hs3
 obtain ⟨s4, hs4⟩ : ∃ z : Int, z = (((((d4 + (2 * d12)) + (2 * d13)) + d14 : Nat) : Int) - ((d9 : Nat) : Int)) - ((d10 : Nat) : Int) := ⟨_, rfl⟩
 rw [← hs4] at Hv857
 obtain ⟨hsb4, hsr4⟩ := p256_row4 hb4 hb9 hb10 hb12 hb13 hb14 hs4
 clear hs4
 obtain ⟨s5, hs5⟩ : ∃ z : Int, z = (((((d5 + (2 * d13)) + (2 * d14)) + d15 : Nat) : Int) - ((d10 : Nat) : Int)) - ((d11 : Nat) : Int) := ⟨_, rfl⟩
 rw [← hs5] at Hv857
 obtain ⟨hsb5, hsr5⟩ := p256_row5 hb5 hb10 hb11 hb13 hb14 hb15 hs5
 clear hs5
 obtain ⟨s6, hs6⟩ : ∃ z : Int, z = (((((d6 + (3 * d14)) + (2 * d15)) + d13 : Nat) : Int) - ((d8 : Nat) : Int)) - ((d9 : Nat) : Int) := ⟨_, rfl⟩
 rw [← hs6] at Hv857
 obtain ⟨hsb6, hsr6⟩ := p256_row6 hb6 hb8 hb9 hb13 hb14 hb15 hs6
 clear hs6
 obtain ⟨s7, hs7⟩ : ∃ z : Int, z = ((((((d7 + (3 * d15)) + d8 : Nat) : Int) - ((d10 : Nat) : Int)) - ((d11 : Nat) : Int)) - ((d12 : Nat) : Int)) - ((d13 : Nat) : Int) := ⟨_, rfl⟩
 rw [← hs7] at Hv857
 obtain ⟨hsb7, hsr7⟩ := p256_row7 hb7 hb8 hb10 hb11 hb12 hb13 hb15 hs7
 clear hs7
 have hS : Hid _ := p256_sum (d0 := d0) (d1 := d1) (d2 := d2) (d3 := d3) (d4 := d4) (d5 := d5) (d6 := d6) (d7 := d7) (d8 := d8) (d9 := d9) (d10 := d10) (d11 := d11) (d12 := d12) (d13 := d13) (d14 := d14) (d15 := d15) hsr0 hsr1 hsr2 hsr3 hsr4 hsr5 hsr6 hsr7
 clear hb0 hsr0 hb1 hsr1 hb2 hsr2 hb3 hsr3 hb4 hsr4 hb5 hsr5 hb6 hsr6 hb7 hsr7 hb8 hb9 hb10 hb11 hb12 hb13 hb14 hb15
 refine then_normal ?_
 refine wp_seq ?_
 refine region_from ?_
 refine f_o ?_
 refine m_z 24 [.int .u64 0, .int .u64 0, .int .u64 0, .int .u64 0] En856 Hv857 fun ac859 wo860 bk858 En861 Hv862 => ?_
 refine f_e ?_
 refine then_normal ?_
 refine wp_seq ?_
 refine d_r [4,5,6,10,11,12,19,20] [] En861 fun ac863 En864 => ?_
 refine then_normal ?_
 refine wp_seq ?_
 refine wp_seq ?_
 refine region_from ?_
 refine f_o ?_
 refine m_a 3 0 8 [.int .i64 s0, .int .i64 s1, .int .i64 s2, .int .i64 s3, .int .i64 s4, .int .i64 s5, .int .i64 s6, .int .i64 s7] En864 Hv862 rfl rfl rfl fun ac865 En866 => ?_
 refine d_e [4,5,6,10,11,12,19,20,241,242] [] En866 fun ac867 En868 => ?_
 refine then_normal ?_
 refine wp_block ?_
 refine loop_enter ?_
 refine loop_once ?_
 refine wp_seq ?_
 refine d_r [4,5,6,10,11,12,19,20,241,242,243] [] En868 fun ac869 En870 => ?_
 refine then_normal ?_
 refine wp_seq ?_
 refine c_t En870 ?_
 refine wp_skip ?_
 refine then_normal ?_
 refine wp_seq ?_
 refine wp_block ?_
 refine wp_seq ?_
 refine region_from ?_
 refine d_k [4,5,6,10,11,12,19,20,241,242,244] [] 1 En870 fun ac871 En872 => ?_
 refine f_o ?_
 refine q_v (x := Instr.index 106 (.agg #[.int .i64 s0, .int .i64 s1, .int .i64 s2, .int .i64 s3, .int .i64 s4, .int .i64 s5, .int .i64 s6, .int .i64 s7]) (.int .i64 0)) (v := .int .i64 s0) En872 (Go.Dbr.run_indexval (e := 2) (m := 8) (cs := [.int .i64 s0, .int .i64 s1, .int .i64 s2, .int .i64 s3, .int .i64 s4, .int .i64 s5, .int .i64 s6, .int .i64 s7]) (j := 0) (v := .int .i64 s0) (by kernel_rfl) (by kernel_rfl) (by kernel_rfl) (by omega) (by omega) rfl _) fun ac873 En874 => ?_
 refine d_e [4,5,6,10,11,12,13,14,19,20,241,242] [] En874 fun ac875 En876 => ?_
 refine then_normal ?_
 refine wp_seq ?_
 refine d_r [4,5,6,10,11,12,13,14,19,20,241,242] [(2, g_n (w_r (e := s0 + (0 : Int)) (x := s0 + (0 : Int)) (by omega)))] En876 fun ac877 En878 => ?_
 refine then_normal ?_
 refine wp_seq ?_
 obtain ⟨x0, hx0⟩ : ∃ z : Int, z = s0 + (0 : Int) := ⟨_, rfl⟩
 have En879 := Env.fx (t := 14) (v := .int .i64 (s0 + (0 : Int))) (u := .int .i64 x0) En878 (by rw [hx0])
 refine r_c (fun ac wo => Env ac 296 [(4, pt bk11), (5, pt bk23), (6, pt bk32), (10, pt bk534), (11, pt bk858), (12, .int .i64 0), (14, .int .i64 x0), (19, .agg (List.toArray (u64s T))), (20, .int .i64 8), (241, .agg #[.int .i64 s0, .int .i64 s1, .int .i64 s2, .int .i64 s3, .int .i64 s4, .int .i64 s5, .int .i64 s6, .int .i64 s7]), (242, .int .i64 0)] ∧ Ev w [] wo [.box bk11 (u64s (List.replicate 4 0)) 24, .box bk23 (u64s T) 84, .box bk32 [ni d0, ni d1, ni d2, ni d3, ni d4, ni d5, ni d6, ni d7, ni d8, ni d9, ni d10, ni d11, ni d12, ni d13, ni d14, ni d15] 104, .box bk534 [.int .i64 s0, .int .i64 s1, .int .i64 s2, .int .i64 s3, .int .i64 s4, .int .i64 s5, .int .i64 s6, .int .i64 s7] 106, .box bk858 [uv64 ((0 : UInt64) ||| ((UInt64.ofNat (Int.toNat (x0 % 4294967296))) <<< UInt64.ofNat 0)), .int .u64 0, .int .u64 0, .int .u64 0] 24]) ?_ ?_
 ·
  refine draw_any (by kernel_rfl) 14 (by kernel_rfl) ?_
  have wo880 := Hv862.trans (Ev.drew Hv862.heap)
  refine q_a [0,1,2,4,5,6,7,8,9,10] [(5, g_i .i64 (show IntKind.wrap .i64 ((BitVec.ofInt (IntKind.bits .i64) x0 &&& BitVec.ofInt (IntKind.bits .i64) (4294967295 : Int)).toNat : Int) = ((Int.toNat (x0 % 4294967296) : Nat) : Int) from m32 _)), (6, g_i .u64 (Go.Dbr.nat_to_u64 (a := ((Int.toNat (x0 % 4294967296) : Nat) : Int)) (n := Int.toNat (x0 % 4294967296)) rfl)), (10, g_i .u64 (Go.Dbr.u64_shl (x := UInt64.ofNat (Int.toNat (x0 % 4294967296))) (n := 0) rfl (by decide)))] 4 En879 fun ac891 En892 => ?_
  refine q_u 3 ?_
  refine m_l 4 En892 wo880 fun ac893 En894 => ?_
  refine q_a [11,12] [(11, g_i .u64 (Go.Dbr.u64_or (x := (0 : UInt64)) (y := (UInt64.ofNat (Int.toNat (x0 % 4294967296))) <<< UInt64.ofNat 0) rfl rfl))] 1 En894 fun ac895 En896 => ?_
  refine q_u 13 ?_
  refine m_s 4 [.box bk11 (u64s (List.replicate 4 0)) 24, .box bk23 (u64s T) 84, .box bk32 [ni d0, ni d1, ni d2, ni d3, ni d4, ni d5, ni d6, ni d7, ni d8, ni d9, ni d10, ni d11, ni d12, ni d13, ni d14, ni d15] 104, .box bk534 [.int .i64 s0, .int .i64 s1, .int .i64 s2, .int .i64 s3, .int .i64 s4, .int .i64 s5, .int .i64 s6, .int .i64 s7] 106, .box bk858 [uv64 ((0 : UInt64) ||| ((UInt64.ofNat (Int.toNat (x0 % 4294967296))) <<< UInt64.ofNat 0)), .int .u64 0, .int .u64 0, .int .u64 0] 24] En896 wo880 fun ac897 wo898 En899 Hv900 => ?_
  exact a_e ⟨En899.sb, Hv900.pk [0, 1, 2, 3, 4]⟩
 rintro ac901 wo902 ⟨En903, Hv904⟩
 refine then_normal ?_
 refine d_r [4,5,6,10,11,12,14,19,20,241,242] [(1, g_i .i64 (show Int.fdiv x0 (2 ^ 32) = x0 / 4294967296 from fdiv32 _))] En903 fun ac905 En906 => ?_
 refine block_normal ?_
 refine then_normal ?_
 obtain ⟨c1, hc1⟩ : ∃ z : Int, z = x0 / 4294967296 := ⟨_, rfl⟩
 have En907 := Env.fx (t := 12) (v := .int .i64 (x0 / 4294967296)) (u := .int .i64 c1) En906 (by rw [hc1])
 have hcb1 : -20 ≤ c1 ∧ c1 ≤ 20 := by omega
 replace hx0 : Hid _ := hx0
 replace hc1 : Hid _ := hc1
 refine d_r [4,5,6,10,11,12,14,19,20,241,242] [] En907 fun ac908 En909 => ?_
 refine then_normal ?_
 refine loop_once ?_
 refine wp_seq ?_
 refine d_r [4,5,6,10,11,12,14,19,20,241,242,243] [] En909 fun ac910 En911 => ?_
 refine then_normal ?_
 refine wp_seq ?_
 refine c_t En911 ?_
 refine wp_skip ?_
 refine then_normal ?_
 refine wp_seq ?_
 refine wp_block ?_
 refine wp_seq ?_
 refine region_from ?_
 refine d_k [4,5,6,10,11,12,14,19,20,241,242,244] [] 1 En911 fun ac912 En913 => ?_
 refine f_o ?_
 refine q_v (x := Instr.index 106 (.agg #[.int .i64 s0, .int .i64 s1, .int .i64 s2, .int .i64 s3, .int .i64 s4, .int .i64 s5, .int .i64 s6, .int .i64 s7]) (.int .i64 1)) (v := .int .i64 s1) En913 (Go.Dbr.run_indexval (e := 2) (m := 8) (cs := [.int .i64 s0, .int .i64 s1, .int .i64 s2, .int .i64 s3, .int .i64 s4, .int .i64 s5, .int .i64 s6, .int .i64 s7]) (j := 1) (v := .int .i64 s1) (by kernel_rfl) (by kernel_rfl) (by kernel_rfl) (by omega) (by omega) rfl _) fun ac914 En915 => ?_
 refine d_e [4,5,6,10,11,12,13,14,19,20,241,242] [] En915 fun ac916 En917 => ?_
 refine then_normal ?_
 refine wp_seq ?_
 refine d_r [4,5,6,10,11,12,13,14,19,20,241,242] [(2, g_n (w_r (e := s1 + c1) (x := s1 + c1) (by omega)))] En917 fun ac918 En919 => ?_
 refine then_normal ?_
 refine wp_seq ?_
 obtain ⟨x1, hx1⟩ : ∃ z : Int, z = s1 + c1 := ⟨_, rfl⟩
 have En920 := Env.fx (t := 14) (v := .int .i64 (s1 + c1)) (u := .int .i64 x1) En919 (by rw [hx1])
 refine r_c (fun ac wo => Env ac 296 [(4, pt bk11), (5, pt bk23), (6, pt bk32), (10, pt bk534), (11, pt bk858), (12, .int .i64 c1), (14, .int .i64 x1), (19, .agg (List.toArray (u64s T))), (20, .int .i64 8), (241, .agg #[.int .i64 s0, .int .i64 s1, .int .i64 s2, .int .i64 s3, .int .i64 s4, .int .i64 s5, .int .i64 s6, .int .i64 s7]), (242, .int .i64 1)] ∧ Ev w [] wo [.box bk11 (u64s (List.replicate 4 0)) 24, .box bk23 (u64s T) 84, .box bk32 [ni d0, ni d1, ni d2, ni d3, ni d4, ni d5, ni d6, ni d7, ni d8, ni d9, ni d10, ni d11, ni d12, ni d13, ni d14, ni d15] 104, .box bk534 [.int .i64 s0, .int .i64 s1, .int .i64 s2, .int .i64 s3, .int .i64 s4, .int .i64 s5, .int .i64 s6, .int .i64 s7] 106, .box bk858 [uv64 (((0 : UInt64) ||| ((UInt64.ofNat (Int.toNat (x0 % 4294967296))) <<< UInt64.ofNat 0)) ||| ((UInt64.ofNat (Int.toNat (x1 % 4294967296))) <<< UInt64.ofNat 32)), .int .u64 0, .int .u64 0, .int .u64 0] 24]) ?_ ?_
 ·
  refine draw_any (by kernel_rfl) 14 (by kernel_rfl) ?_
  have wo921 := Hv904.trans (Ev.drew Hv904.heap)
  refine q_a [0,1,2,4,5,6,7,8,9,10] [(5, g_i .i64 (show IntKind.wrap .i64 ((BitVec.ofInt (IntKind.bits .i64) x1 &&& BitVec.ofInt (IntKind.bits .i64) (4294967295 : Int)).toNat : Int) = ((Int.toNat (x1 % 4294967296) : Nat) : Int) from m32 _)), (6, g_i .u64 (Go.Dbr.nat_to_u64 (a := ((Int.toNat (x1 % 4294967296) : Nat) : Int)) (n := Int.toNat (x1 % 4294967296)) rfl)), (10, g_i .u64 (Go.Dbr.u64_shl (x := UInt64.ofNat (Int.toNat (x1 % 4294967296))) (n := 32) rfl (by decide)))] 4 En920 fun ac932 En933 => ?_
  refine q_u 3 ?_
  refine m_l 4 En933 wo921 fun ac934 En935 => ?_
  refine q_a [11,12] [(11, g_i .u64 (Go.Dbr.u64_or (x := (0 : UInt64) ||| ((UInt64.ofNat (Int.toNat (x0 % 4294967296))) <<< UInt64.ofNat 0)) (y := (UInt64.ofNat (Int.toNat (x1 % 4294967296))) <<< UInt64.ofNat 32) rfl rfl))] 1 En935 fun ac936 En937 => ?_
  refine q_u 13 ?_
  refine m_s 4 [.box bk11 (u64s (List.replicate 4 0)) 24, .box bk23 (u64s T) 84, .box bk32 [ni d0, ni d1, ni d2, ni d3, ni d4, ni d5, ni d6, ni d7, ni d8, ni d9, ni d10, ni d11, ni d12, ni d13, ni d14, ni d15] 104, .box bk534 [.int .i64 s0, .int .i64 s1, .int .i64 s2, .int .i64 s3, .int .i64 s4, .int .i64 s5, .int .i64 s6, .int .i64 s7] 106, .box bk858 [uv64 (((0 : UInt64) ||| ((UInt64.ofNat (Int.toNat (x0 % 4294967296))) <<< UInt64.ofNat 0)) ||| ((UInt64.ofNat (Int.toNat (x1 % 4294967296))) <<< UInt64.ofNat 32)), .int .u64 0, .int .u64 0, .int .u64 0] 24] En937 wo921 fun ac938 wo939 En940 Hv941 => ?_
  exact a_e ⟨En940.sb, Hv941.pk [0, 1, 2, 3, 4]⟩
 rintro ac942 wo943 ⟨En944, Hv945⟩
 refine then_normal ?_
 refine d_r [4,5,6,10,11,12,14,19,20,241,242] [(1, g_i .i64 (show Int.fdiv x1 (2 ^ 32) = x1 / 4294967296 from fdiv32 _))] En944 fun ac946 En947 => ?_
 refine block_normal ?_
 refine then_normal ?_
 obtain ⟨c2, hc2⟩ : ∃ z : Int, z = x1 / 4294967296 := ⟨_, rfl⟩
 have En948 := Env.fx (t := 12) (v := .int .i64 (x1 / 4294967296)) (u := .int .i64 c2) En947 (by rw [hc2])
 have hcb2 : -20 ≤ c2 ∧ c2 ≤ 20 := by omega
 replace hx1 : Hid _ := hx1
 replace hc2 : Hid _ := hc2
 refine d_r [4,5,6,10,11,12,14,19,20,241,242] [] En948 fun ac949 En950 => ?_
 refine then_normal ?_
 refine loop_once ?_
 refine wp_seq ?_
 refine d_r [4,5,6,10,11,12,14,19,20,241,242,243] [] En950 fun ac951 En952 => ?_
 refine then_normal ?_
 refine wp_seq ?_
 refine c_t En952 ?_
 refine wp_skip ?_
 refine then_normal ?_
 refine wp_seq ?_
 refine wp_block ?_
 refine wp_seq ?_
 refine region_from ?_
 refine d_k [4,5,6,10,11,12,14,19,20,241,242,244] [] 1 En952 fun ac953 En954 => ?_
 refine f_o ?_
 refine q_v (x := Instr.index 106 (.agg #[.int .i64 s0, .int .i64 s1, .int .i64 s2, .int .i64 s3, .int .i64 s4, .int .i64 s5, .int .i64 s6, .int .i64 s7]) (.int .i64 2)) (v := .int .i64 s2) En954 (Go.Dbr.run_indexval (e := 2) (m := 8) (cs := [.int .i64 s0, .int .i64 s1, .int .i64 s2, .int .i64 s3, .int .i64 s4, .int .i64 s5, .int .i64 s6, .int .i64 s7]) (j := 2) (v := .int .i64 s2) (by kernel_rfl) (by kernel_rfl) (by kernel_rfl) (by omega) (by omega) rfl _) fun ac955 En956 => ?_
 refine d_e [4,5,6,10,11,12,13,14,19,20,241,242] [] En956 fun ac957 En958 => ?_
 refine then_normal ?_
 refine wp_seq ?_
 refine d_r [4,5,6,10,11,12,13,14,19,20,241,242] [(2, g_n (w_r (e := s2 + c2) (x := s2 + c2) (by omega)))] En958 fun ac959 En960 => ?_
 refine then_normal ?_
 refine wp_seq ?_
 obtain ⟨x2, hx2⟩ : ∃ z : Int, z = s2 + c2 := ⟨_, rfl⟩
 have En961 := Env.fx (t := 14) (v := .int .i64 (s2 + c2)) (u := .int .i64 x2) En960 (by rw [hx2])
 refine r_c (fun ac wo => Env ac 296 [(4, pt bk11), (5, pt bk23), (6, pt bk32), (10, pt bk534), (11, pt bk858), (12, .int .i64 c2), (14, .int .i64 x2), (19, .agg (List.toArray (u64s T))), (20, .int .i64 8), (241, .agg #[.int .i64 s0, .int .i64 s1, .int .i64 s2, .int .i64 s3, .int .i64 s4, .int .i64 s5, .int .i64 s6, .int .i64 s7]), (242, .int .i64 2)] ∧ Ev w [] wo [.box bk11 (u64s (List.replicate 4 0)) 24, .box bk23 (u64s T) 84, .box bk32 [ni d0, ni d1, ni d2, ni d3, ni d4, ni d5, ni d6, ni d7, ni d8, ni d9, ni d10, ni d11, ni d12, ni d13, ni d14, ni d15] 104, .box bk534 [.int .i64 s0, .int .i64 s1, .int .i64 s2, .int .i64 s3, .int .i64 s4, .int .i64 s5, .int .i64 s6, .int .i64 s7] 106, .box bk858 [uv64 (((0 : UInt64) ||| ((UInt64.ofNat (Int.toNat (x0 % 4294967296))) <<< UInt64.ofNat 0)) ||| ((UInt64.ofNat (Int.toNat (x1 % 4294967296))) <<< UInt64.ofNat 32)), uv64 ((0 : UInt64) ||| ((UInt64.ofNat (Int.toNat (x2 % 4294967296))) <<< UInt64.ofNat 0)), .int .u64 0, .int .u64 0] 24]) ?_ ?_
 ·
  refine draw_any (by kernel_rfl) 14 (by kernel_rfl) ?_
  have wo962 := Hv945.trans (Ev.drew Hv945.heap)
  refine q_a [0,1,2,4,5,6,7,8,9,10] [(5, g_i .i64 (show IntKind.wrap .i64 ((BitVec.ofInt (IntKind.bits .i64) x2 &&& BitVec.ofInt (IntKind.bits .i64) (4294967295 : Int)).toNat : Int) = ((Int.toNat (x2 % 4294967296) : Nat) : Int) from m32 _)), (6, g_i .u64 (Go.Dbr.nat_to_u64 (a := ((Int.toNat (x2 % 4294967296) : Nat) : Int)) (n := Int.toNat (x2 % 4294967296)) rfl)), (10, g_i .u64 (Go.Dbr.u64_shl (x := UInt64.ofNat (Int.toNat (x2 % 4294967296))) (n := 0) rfl (by decide)))] 4 En961 fun ac973 En974 => ?_
  refine q_u 3 ?_
  refine m_l 4 En974 wo962 fun ac975 En976 => ?_
  refine q_a [11,12] [(11, g_i .u64 (Go.Dbr.u64_or (x := (0 : UInt64)) (y := (UInt64.ofNat (Int.toNat (x2 % 4294967296))) <<< UInt64.ofNat 0) rfl rfl))] 1 En976 fun ac977 En978 => ?_
  refine q_u 13 ?_
  refine m_s 4 [.box bk11 (u64s (List.replicate 4 0)) 24, .box bk23 (u64s T) 84, .box bk32 [ni d0, ni d1, ni d2, ni d3, ni d4, ni d5, ni d6, ni d7, ni d8, ni d9, ni d10, ni d11, ni d12, ni d13, ni d14, ni d15] 104, .box bk534 [.int .i64 s0, .int .i64 s1, .int .i64 s2, .int .i64 s3, .int .i64 s4, .int .i64 s5, .int .i64 s6, .int .i64 s7] 106, .box bk858 [uv64 (((0 : UInt64) ||| ((UInt64.ofNat (Int.toNat (x0 % 4294967296))) <<< UInt64.ofNat 0)) ||| ((UInt64.ofNat (Int.toNat (x1 % 4294967296))) <<< UInt64.ofNat 32)), uv64 ((0 : UInt64) ||| ((UInt64.ofNat (Int.toNat (x2 % 4294967296))) <<< UInt64.ofNat 0)), .int .u64 0, .int .u64 0] 24] En978 wo962 fun ac979 wo980 En981 Hv982 => ?_
  exact a_e ⟨En981.sb, Hv982.pk [0, 1, 2, 3, 4]⟩
 rintro ac983 wo984 ⟨En985, Hv986⟩
 refine then_normal ?_
 refine d_r [4,5,6,10,11,12,14,19,20,241,242] [(1, g_i .i64 (show Int.fdiv x2 (2 ^ 32) = x2 / 4294967296 from fdiv32 _))] En985 fun ac987 En988 => ?_
 refine block_normal ?_
 refine then_normal ?_
 obtain ⟨c3, hc3⟩ : ∃ z : Int, z = x2 / 4294967296 := ⟨_, rfl⟩
 have En989 := Env.fx (t := 12) (v := .int .i64 (x2 / 4294967296)) (u := .int .i64 c3) En988 (by rw [hc3])
 have hcb3 : -20 ≤ c3 ∧ c3 ≤ 20 := by omega
 replace hx2 : Hid _ := hx2
 replace hc3 : Hid _ := hc3
 refine d_r [4,5,6,10,11,12,14,19,20,241,242] [] En989 fun ac990 En991 => ?_
 refine then_normal ?_
 refine loop_once ?_
 refine wp_seq ?_
 refine d_r [4,5,6,10,11,12,14,19,20,241,242,243] [] En991 fun ac992 En993 => ?_
 refine then_normal ?_
 refine wp_seq ?_
 refine c_t En993 ?_
 refine wp_skip ?_
 refine then_normal ?_
 refine wp_seq ?_
 refine wp_block ?_
 refine wp_seq ?_
 refine region_from ?_
 refine d_k [4,5,6,10,11,12,14,19,20,241,242,244] [] 1 En993 fun ac994 En995 => ?_
 refine f_o ?_
 refine q_v (x := Instr.index 106 (.agg #[.int .i64 s0, .int .i64 s1, .int .i64 s2, .int .i64 s3, .int .i64 s4, .int .i64 s5, .int .i64 s6, .int .i64 s7]) (.int .i64 3)) (v := .int .i64 s3) En995 (Go.Dbr.run_indexval (e := 2) (m := 8) (cs := [.int .i64 s0, .int .i64 s1, .int .i64 s2, .int .i64 s3, .int .i64 s4, .int .i64 s5, .int .i64 s6, .int .i64 s7]) (j := 3) (v := .int .i64 s3) (by kernel_rfl) (by kernel_rfl) (by kernel_rfl) (by omega) (by omega) rfl _) fun ac996 En997 => ?_
 refine d_e [4,5,6,10,11,12,13,14,19,20,241,242] [] En997 fun ac998 En999 => ?_
 refine then_normal ?_
 refine wp_seq ?_
 refine d_r [4,5,6,10,11,12,13,14,19,20,241,242] [(2, g_n (w_r (e := s3 + c3) (x := s3 + c3) (by omega)))] En999 fun ac1000 En1001 => ?_
 refine then_normal ?_
 refine wp_seq ?_
 obtain ⟨x3, hx3⟩ : ∃ z : Int, z = s3 + c3 := ⟨_, rfl⟩
 have En1002 := Env.fx (t := 14) (v := .int .i64 (s3 + c3)) (u := .int .i64 x3) En1001 (by rw [hx3])
 refine r_c (fun ac wo => Env ac 296 [(4, pt bk11), (5, pt bk23), (6, pt bk32), (10, pt bk534), (11, pt bk858), (12, .int .i64 c3), (14, .int .i64 x3), (19, .agg (List.toArray (u64s T))), (20, .int .i64 8), (241, .agg #[.int .i64 s0, .int .i64 s1, .int .i64 s2, .int .i64 s3, .int .i64 s4, .int .i64 s5, .int .i64 s6, .int .i64 s7]), (242, .int .i64 3)] ∧ Ev w [] wo [.box bk11 (u64s (List.replicate 4 0)) 24, .box bk23 (u64s T) 84, .box bk32 [ni d0, ni d1, ni d2, ni d3, ni d4, ni d5, ni d6, ni d7, ni d8, ni d9, ni d10, ni d11, ni d12, ni d13, ni d14, ni d15] 104, .box bk534 [.int .i64 s0, .int .i64 s1, .int .i64 s2, .int .i64 s3, .int .i64 s4, .int .i64 s5, .int .i64 s6, .int .i64 s7] 106, .box bk858 [uv64 (((0 : UInt64) ||| ((UInt64.ofNat (Int.toNat (x0 % 4294967296))) <<< UInt64.ofNat 0)) ||| ((UInt64.ofNat (Int.toNat (x1 % 4294967296))) <<< UInt64.ofNat 32)), uv64 (((0 : UInt64) ||| ((UInt64.ofNat (Int.toNat (x2 % 4294967296))) <<< UInt64.ofNat 0)) ||| ((UInt64.ofNat (Int.toNat (x3 % 4294967296))) <<< UInt64.ofNat 32)), .int .u64 0, .int .u64 0] 24]) ?_ ?_
 ·
  refine draw_any (by kernel_rfl) 14 (by kernel_rfl) ?_
  have wo1003 := Hv986.trans (Ev.drew Hv986.heap)
  refine q_a [0,1,2,4,5,6,7,8,9,10] [(5, g_i .i64 (show IntKind.wrap .i64 ((BitVec.ofInt (IntKind.bits .i64) x3 &&& BitVec.ofInt (IntKind.bits .i64) (4294967295 : Int)).toNat : Int) = ((Int.toNat (x3 % 4294967296) : Nat) : Int) from m32 _)), (6, g_i .u64 (Go.Dbr.nat_to_u64 (a := ((Int.toNat (x3 % 4294967296) : Nat) : Int)) (n := Int.toNat (x3 % 4294967296)) rfl)), (10, g_i .u64 (Go.Dbr.u64_shl (x := UInt64.ofNat (Int.toNat (x3 % 4294967296))) (n := 32) rfl (by decide)))] 4 En1002 fun ac1014 En1015 => ?_
  refine q_u 3 ?_
  refine m_l 4 En1015 wo1003 fun ac1016 En1017 => ?_
  refine q_a [11,12] [(11, g_i .u64 (Go.Dbr.u64_or (x := (0 : UInt64) ||| ((UInt64.ofNat (Int.toNat (x2 % 4294967296))) <<< UInt64.ofNat 0)) (y := (UInt64.ofNat (Int.toNat (x3 % 4294967296))) <<< UInt64.ofNat 32) rfl rfl))] 1 En1017 fun ac1018 En1019 => ?_
  refine q_u 13 ?_
  refine m_s 4 [.box bk11 (u64s (List.replicate 4 0)) 24, .box bk23 (u64s T) 84, .box bk32 [ni d0, ni d1, ni d2, ni d3, ni d4, ni d5, ni d6, ni d7, ni d8, ni d9, ni d10, ni d11, ni d12, ni d13, ni d14, ni d15] 104, .box bk534 [.int .i64 s0, .int .i64 s1, .int .i64 s2, .int .i64 s3, .int .i64 s4, .int .i64 s5, .int .i64 s6, .int .i64 s7] 106, .box bk858 [uv64 (((0 : UInt64) ||| ((UInt64.ofNat (Int.toNat (x0 % 4294967296))) <<< UInt64.ofNat 0)) ||| ((UInt64.ofNat (Int.toNat (x1 % 4294967296))) <<< UInt64.ofNat 32)), uv64 (((0 : UInt64) ||| ((UInt64.ofNat (Int.toNat (x2 % 4294967296))) <<< UInt64.ofNat 0)) ||| ((UInt64.ofNat (Int.toNat (x3 % 4294967296))) <<< UInt64.ofNat 32)), .int .u64 0, .int .u64 0] 24] En1019 wo1003 fun ac1020 wo1021 En1022 Hv1023 => ?_
  exact a_e ⟨En1022.sb, Hv1023.pk [0, 1, 2, 3, 4]⟩
 rintro ac1024 wo1025 ⟨En1026, Hv1027⟩
 refine then_normal ?_
 refine d_r [4,5,6,10,11,12,14,19,20,241,242] [(1, g_i .i64 (show Int.fdiv x3 (2 ^ 32) = x3 / 4294967296 from fdiv32 _))] En1026 fun ac1028 En1029 => ?_
 refine block_normal ?_
 refine then_normal ?_
 obtain ⟨c4, hc4⟩ : ∃ z : Int, z = x3 / 4294967296 := ⟨_, rfl⟩
 have En1030 := Env.fx (t := 12) (v := .int .i64 (x3 / 4294967296)) (u := .int .i64 c4) En1029 (by rw [hc4])
 have hcb4 : -20 ≤ c4 ∧ c4 ≤ 20 := by omega
 replace hx3 : Hid _ := hx3
 replace hc4 : Hid _ := hc4
 refine d_r [4,5,6,10,11,12,14,19,20,241,242] [] En1030 fun ac1031 En1032 => ?_
 refine then_normal ?_
 refine loop_once ?_
 refine wp_seq ?_
 refine d_r [4,5,6,10,11,12,14,19,20,241,242,243] [] En1032 fun ac1033 En1034 => ?_
 refine then_normal ?_
 refine wp_seq ?_
 refine c_t En1034 ?_
 refine wp_skip ?_
 refine then_normal ?_
 refine wp_seq ?_
 refine wp_block ?_
 refine wp_seq ?_
 refine region_from ?_
 refine d_k [4,5,6,10,11,12,14,19,20,241,242,244] [] 1 En1034 fun ac1035 En1036 => ?_
 refine f_o ?_
 refine q_v (x := Instr.index 106 (.agg #[.int .i64 s0, .int .i64 s1, .int .i64 s2, .int .i64 s3, .int .i64 s4, .int .i64 s5, .int .i64 s6, .int .i64 s7]) (.int .i64 4)) (v := .int .i64 s4) En1036 (Go.Dbr.run_indexval (e := 2) (m := 8) (cs := [.int .i64 s0, .int .i64 s1, .int .i64 s2, .int .i64 s3, .int .i64 s4, .int .i64 s5, .int .i64 s6, .int .i64 s7]) (j := 4) (v := .int .i64 s4) (by kernel_rfl) (by kernel_rfl) (by kernel_rfl) (by omega) (by omega) rfl _) fun ac1037 En1038 => ?_
 refine d_e [4,5,6,10,11,12,13,14,19,20,241,242] [] En1038 fun ac1039 En1040 => ?_
 refine then_normal ?_
 refine wp_seq ?_
 refine d_r [4,5,6,10,11,12,13,14,19,20,241,242] [(2, g_n (w_r (e := s4 + c4) (x := s4 + c4) (by omega)))] En1040 fun ac1041 En1042 => ?_
 refine then_normal ?_
 refine wp_seq ?_
 obtain ⟨x4, hx4⟩ : ∃ z : Int, z = s4 + c4 := ⟨_, rfl⟩
 have En1043 := Env.fx (t := 14) (v := .int .i64 (s4 + c4)) (u := .int .i64 x4) En1042 (by rw [hx4])
 refine r_c (fun ac wo => Env ac 296 [(4, pt bk11), (5, pt bk23), (6, pt bk32), (10, pt bk534), (11, pt bk858), (12, .int .i64 c4), (14, .int .i64 x4), (19, .agg (List.toArray (u64s T))), (20, .int .i64 8), (241, .agg #[.int .i64 s0, .int .i64 s1, .int .i64 s2, .int .i64 s3, .int .i64 s4, .int .i64 s5, .int .i64 s6, .int .i64 s7]), (242, .int .i64 4)] ∧ Ev w [] wo [.box bk11 (u64s (List.replicate 4 0)) 24, .box bk23 (u64s T) 84, .box bk32 [ni d0, ni d1, ni d2, ni d3, ni d4, ni d5, ni d6, ni d7, ni d8, ni d9, ni d10, ni d11, ni d12, ni d13, ni d14, ni d15] 104, .box bk534 [.int .i64 s0, .int .i64 s1, .int .i64 s2, .int .i64 s3, .int .i64 s4, .int .i64 s5, .int .i64 s6, .int .i64 s7] 106, .box bk858 [uv64 (((0 : UInt64) ||| ((UInt64.ofNat (Int.toNat (x0 % 4294967296))) <<< UInt64.ofNat 0)) ||| ((UInt64.ofNat (Int.toNat (x1 % 4294967296))) <<< UInt64.ofNat 32)), uv64 (((0 : UInt64) ||| ((UInt64.ofNat (Int.toNat (x2 % 4294967296))) <<< UInt64.ofNat 0)) ||| ((UInt64.ofNat (Int.toNat (x3 % 4294967296))) <<< UInt64.ofNat 32)), uv64 ((0 : UInt64) ||| ((UInt64.ofNat (Int.toNat (x4 % 4294967296))) <<< UInt64.ofNat 0)), .int .u64 0] 24]) ?_ ?_
 ·
  refine draw_any (by kernel_rfl) 14 (by kernel_rfl) ?_
  have wo1044 := Hv1027.trans (Ev.drew Hv1027.heap)
  refine q_a [0,1,2,4,5,6,7,8,9,10] [(5, g_i .i64 (show IntKind.wrap .i64 ((BitVec.ofInt (IntKind.bits .i64) x4 &&& BitVec.ofInt (IntKind.bits .i64) (4294967295 : Int)).toNat : Int) = ((Int.toNat (x4 % 4294967296) : Nat) : Int) from m32 _)), (6, g_i .u64 (Go.Dbr.nat_to_u64 (a := ((Int.toNat (x4 % 4294967296) : Nat) : Int)) (n := Int.toNat (x4 % 4294967296)) rfl)), (10, g_i .u64 (Go.Dbr.u64_shl (x := UInt64.ofNat (Int.toNat (x4 % 4294967296))) (n := 0) rfl (by decide)))] 4 En1043 fun ac1055 En1056 => ?_
  refine q_u 3 ?_
  refine m_l 4 En1056 wo1044 fun ac1057 En1058 => ?_
  refine q_a [11,12] [(11, g_i .u64 (Go.Dbr.u64_or (x := (0 : UInt64)) (y := (UInt64.ofNat (Int.toNat (x4 % 4294967296))) <<< UInt64.ofNat 0) rfl rfl))] 1 En1058 fun ac1059 En1060 => ?_
  refine q_u 13 ?_
  refine m_s 4 [.box bk11 (u64s (List.replicate 4 0)) 24, .box bk23 (u64s T) 84, .box bk32 [ni d0, ni d1, ni d2, ni d3, ni d4, ni d5, ni d6, ni d7, ni d8, ni d9, ni d10, ni d11, ni d12, ni d13, ni d14, ni d15] 104, .box bk534 [.int .i64 s0, .int .i64 s1, .int .i64 s2, .int .i64 s3, .int .i64 s4, .int .i64 s5, .int .i64 s6, .int .i64 s7] 106, .box bk858 [uv64 (((0 : UInt64) ||| ((UInt64.ofNat (Int.toNat (x0 % 4294967296))) <<< UInt64.ofNat 0)) ||| ((UInt64.ofNat (Int.toNat (x1 % 4294967296))) <<< UInt64.ofNat 32)), uv64 (((0 : UInt64) ||| ((UInt64.ofNat (Int.toNat (x2 % 4294967296))) <<< UInt64.ofNat 0)) ||| ((UInt64.ofNat (Int.toNat (x3 % 4294967296))) <<< UInt64.ofNat 32)), uv64 ((0 : UInt64) ||| ((UInt64.ofNat (Int.toNat (x4 % 4294967296))) <<< UInt64.ofNat 0)), .int .u64 0] 24] En1060 wo1044 fun ac1061 wo1062 En1063 Hv1064 => ?_
  exact a_e ⟨En1063.sb, Hv1064.pk [0, 1, 2, 3, 4]⟩
 rintro ac1065 wo1066 ⟨En1067, Hv1068⟩
 refine then_normal ?_
 refine d_r [4,5,6,10,11,12,14,19,20,241,242] [(1, g_i .i64 (show Int.fdiv x4 (2 ^ 32) = x4 / 4294967296 from fdiv32 _))] En1067 fun ac1069 En1070 => ?_
 refine block_normal ?_
 refine then_normal ?_
 obtain ⟨c5, hc5⟩ : ∃ z : Int, z = x4 / 4294967296 := ⟨_, rfl⟩
 have En1071 := Env.fx (t := 12) (v := .int .i64 (x4 / 4294967296)) (u := .int .i64 c5) En1070 (by rw [hc5])
 have hcb5 : -20 ≤ c5 ∧ c5 ≤ 20 := by omega
 replace hx4 : Hid _ := hx4
 replace hc5 : Hid _ := hc5
 refine d_r [4,5,6,10,11,12,14,19,20,241,242] [] En1071 fun ac1072 En1073 => ?_
 refine then_normal ?_
 refine loop_once ?_
 refine wp_seq ?_
 refine d_r [4,5,6,10,11,12,14,19,20,241,242,243] [] En1073 fun ac1074 En1075 => ?_
 refine then_normal ?_
 refine wp_seq ?_
 refine c_t En1075 ?_
 refine wp_skip ?_
 refine then_normal ?_
 refine wp_seq ?_
 refine wp_block ?_
 refine wp_seq ?_
 refine region_from ?_
 refine d_k [4,5,6,10,11,12,14,19,20,241,242,244] [] 1 En1075 fun ac1076 En1077 => ?_
 refine f_o ?_
 refine q_v (x := Instr.index 106 (.agg #[.int .i64 s0, .int .i64 s1, .int .i64 s2, .int .i64 s3, .int .i64 s4, .int .i64 s5, .int .i64 s6, .int .i64 s7]) (.int .i64 5)) (v := .int .i64 s5) En1077 (Go.Dbr.run_indexval (e := 2) (m := 8) (cs := [.int .i64 s0, .int .i64 s1, .int .i64 s2, .int .i64 s3, .int .i64 s4, .int .i64 s5, .int .i64 s6, .int .i64 s7]) (j := 5) (v := .int .i64 s5) (by kernel_rfl) (by kernel_rfl) (by kernel_rfl) (by omega) (by omega) rfl _) fun ac1078 En1079 => ?_
 refine d_e [4,5,6,10,11,12,13,14,19,20,241,242] [] En1079 fun ac1080 En1081 => ?_
 refine then_normal ?_
 refine wp_seq ?_
 refine d_r [4,5,6,10,11,12,13,14,19,20,241,242] [(2, g_n (w_r (e := s5 + c5) (x := s5 + c5) (by omega)))] En1081 fun ac1082 En1083 => ?_
 refine then_normal ?_
 refine wp_seq ?_
 obtain ⟨x5, hx5⟩ : ∃ z : Int, z = s5 + c5 := ⟨_, rfl⟩
 have En1084 := Env.fx (t := 14) (v := .int .i64 (s5 + c5)) (u := .int .i64 x5) En1083 (by rw [hx5])
 refine r_c (fun ac wo => Env ac 296 [(4, pt bk11), (5, pt bk23), (6, pt bk32), (10, pt bk534), (11, pt bk858), (12, .int .i64 c5), (14, .int .i64 x5), (19, .agg (List.toArray (u64s T))), (20, .int .i64 8), (241, .agg #[.int .i64 s0, .int .i64 s1, .int .i64 s2, .int .i64 s3, .int .i64 s4, .int .i64 s5, .int .i64 s6, .int .i64 s7]), (242, .int .i64 5)] ∧ Ev w [] wo [.box bk11 (u64s (List.replicate 4 0)) 24, .box bk23 (u64s T) 84, .box bk32 [ni d0, ni d1, ni d2, ni d3, ni d4, ni d5, ni d6, ni d7, ni d8, ni d9, ni d10, ni d11, ni d12, ni d13, ni d14, ni d15] 104, .box bk534 [.int .i64 s0, .int .i64 s1, .int .i64 s2, .int .i64 s3, .int .i64 s4, .int .i64 s5, .int .i64 s6, .int .i64 s7] 106, .box bk858 [uv64 (((0 : UInt64) ||| ((UInt64.ofNat (Int.toNat (x0 % 4294967296))) <<< UInt64.ofNat 0)) ||| ((UInt64.ofNat (Int.toNat (x1 % 4294967296))) <<< UInt64.ofNat 32)), uv64 (((0 : UInt64) ||| ((UInt64.ofNat (Int.toNat (x2 % 4294967296))) <<< UInt64.ofNat 0)) ||| ((UInt64.ofNat (Int.toNat (x3 % 4294967296))) <<< UInt64.ofNat 32)), uv64 (((0 : UInt64) ||| ((UInt64.ofNat (Int.toNat (x4 % 4294967296))) <<< UInt64.ofNat 0)) ||| ((UInt64.ofNat (Int.toNat (x5 % 4294967296))) <<< UInt64.ofNat 32)), .int .u64 0] 24]) ?_ ?_
 ·
  refine draw_any (by kernel_rfl) 14 (by kernel_rfl) ?_
  have wo1085 := Hv1068.trans (Ev.drew Hv1068.heap)
  refine q_a [0,1,2,4,5,6,7,8,9,10] [(5, g_i .i64 (show IntKind.wrap .i64 ((BitVec.ofInt (IntKind.bits .i64) x5 &&& BitVec.ofInt (IntKind.bits .i64) (4294967295 : Int)).toNat : Int) = ((Int.toNat (x5 % 4294967296) : Nat) : Int) from m32 _)), (6, g_i .u64 (Go.Dbr.nat_to_u64 (a := ((Int.toNat (x5 % 4294967296) : Nat) : Int)) (n := Int.toNat (x5 % 4294967296)) rfl)), (10, g_i .u64 (Go.Dbr.u64_shl (x := UInt64.ofNat (Int.toNat (x5 % 4294967296))) (n := 32) rfl (by decide)))] 4 En1084 fun ac1096 En1097 => ?_
  refine q_u 3 ?_
  refine m_l 4 En1097 wo1085 fun ac1098 En1099 => ?_
  refine q_a [11,12] [(11, g_i .u64 (Go.Dbr.u64_or (x := (0 : UInt64) ||| ((UInt64.ofNat (Int.toNat (x4 % 4294967296))) <<< UInt64.ofNat 0)) (y := (UInt64.ofNat (Int.toNat (x5 % 4294967296))) <<< UInt64.ofNat 32) rfl rfl))] 1 En1099 fun ac1100 En1101 => ?_
  refine q_u 13 ?_
  refine m_s 4 [.box bk11 (u64s (List.replicate 4 0)) 24, .box bk23 (u64s T) 84, .box bk32 [ni d0, ni d1, ni d2, ni d3, ni d4, ni d5, ni d6, ni d7, ni d8, ni d9, ni d10, ni d11, ni d12, ni d13, ni d14, ni d15] 104, .box bk534 [.int .i64 s0, .int .i64 s1, .int .i64 s2, .int .i64 s3, .int .i64 s4, .int .i64 s5, .int .i64 s6, .int .i64 s7] 106, .box bk858 [uv64 (((0 : UInt64) ||| ((UInt64.ofNat (Int.toNat (x0 % 4294967296))) <<< UInt64.ofNat 0)) ||| ((UInt64.ofNat (Int.toNat (x1 % 4294967296))) <<< UInt64.ofNat 32)), uv64 (((0 : UInt64) ||| ((UInt64.ofNat (Int.toNat (x2 % 4294967296))) <<< UInt64.ofNat 0)) ||| ((UInt64.ofNat (Int.toNat (x3 % 4294967296))) <<< UInt64.ofNat 32)), uv64 (((0 : UInt64) ||| ((UInt64.ofNat (Int.toNat (x4 % 4294967296))) <<< UInt64.ofNat 0)) ||| ((UInt64.ofNat (Int.toNat (x5 % 4294967296))) <<< UInt64.ofNat 32)), .int .u64 0] 24] En1101 wo1085 fun ac1102 wo1103 En1104 Hv1105 => ?_
  exact a_e ⟨En1104.sb, Hv1105.pk [0, 1, 2, 3, 4]⟩
 rintro ac1106 wo1107 ⟨En1108, Hv1109⟩
 refine then_normal ?_
 refine d_r [4,5,6,10,11,12,14,19,20,241,242] [(1, g_i .i64 (show Int.fdiv x5 (2 ^ 32) = x5 / 4294967296 from fdiv32 _))] En1108 fun ac1110 En1111 => ?_
 refine block_normal ?_
 refine then_normal ?_
 obtain ⟨c6, hc6⟩ : ∃ z : Int, z = x5 / 4294967296 := ⟨_, rfl⟩
 have En1112 := Env.fx (t := 12) (v := .int .i64 (x5 / 4294967296)) (u := .int .i64 c6) En1111 (by rw [hc6])
 have hcb6 : -20 ≤ c6 ∧ c6 ≤ 20 := by omega
 replace hx5 : Hid _ := hx5
 replace hc6 : Hid _ := hc6
 refine d_r [4,5,6,10,11,12,14,19,20,241,242] [] En1112 fun ac1113 En1114 => ?_
 refine then_normal ?_
 refine loop_once ?_
 refine wp_seq ?_
 refine d_r [4,5,6,10,11,12,14,19,20,241,242,243] [] En1114 fun ac1115 En1116 => ?_
 refine then_normal ?_
 refine wp_seq ?_
 refine c_t En1116 ?_
 refine wp_skip ?_
 refine then_normal ?_
 refine wp_seq ?_
 refine wp_block ?_
 refine wp_seq ?_
 refine region_from ?_
 refine d_k [4,5,6,10,11,12,14,19,20,241,242,244] [] 1 En1116 fun ac1117 En1118 => ?_
 refine f_o ?_
 refine q_v (x := Instr.index 106 (.agg #[.int .i64 s0, .int .i64 s1, .int .i64 s2, .int .i64 s3, .int .i64 s4, .int .i64 s5, .int .i64 s6, .int .i64 s7]) (.int .i64 6)) (v := .int .i64 s6) En1118 (Go.Dbr.run_indexval (e := 2) (m := 8) (cs := [.int .i64 s0, .int .i64 s1, .int .i64 s2, .int .i64 s3, .int .i64 s4, .int .i64 s5, .int .i64 s6, .int .i64 s7]) (j := 6) (v := .int .i64 s6) (by kernel_rfl) (by kernel_rfl) (by kernel_rfl) (by omega) (by omega) rfl _) fun ac1119 En1120 => ?_
 refine d_e [4,5,6,10,11,12,13,14,19,20,241,242] [] En1120 fun ac1121 En1122 => ?_
 refine then_normal ?_
 refine wp_seq ?_
 refine d_r [4,5,6,10,11,12,13,14,19,20,241,242] [(2, g_n (w_r (e := s6 + c6) (x := s6 + c6) (by omega)))] En1122 fun ac1123 En1124 => ?_
 refine then_normal ?_
 refine wp_seq ?_
 obtain ⟨x6, hx6⟩ : ∃ z : Int, z = s6 + c6 := ⟨_, rfl⟩
 have En1125 := Env.fx (t := 14) (v := .int .i64 (s6 + c6)) (u := .int .i64 x6) En1124 (by rw [hx6])
 refine r_c (fun ac wo => Env ac 296 [(4, pt bk11), (5, pt bk23), (6, pt bk32), (10, pt bk534), (11, pt bk858), (12, .int .i64 c6), (14, .int .i64 x6), (19, .agg (List.toArray (u64s T))), (20, .int .i64 8), (241, .agg #[.int .i64 s0, .int .i64 s1, .int .i64 s2, .int .i64 s3, .int .i64 s4, .int .i64 s5, .int .i64 s6, .int .i64 s7]), (242, .int .i64 6)] ∧ Ev w [] wo [.box bk11 (u64s (List.replicate 4 0)) 24, .box bk23 (u64s T) 84, .box bk32 [ni d0, ni d1, ni d2, ni d3, ni d4, ni d5, ni d6, ni d7, ni d8, ni d9, ni d10, ni d11, ni d12, ni d13, ni d14, ni d15] 104, .box bk534 [.int .i64 s0, .int .i64 s1, .int .i64 s2, .int .i64 s3, .int .i64 s4, .int .i64 s5, .int .i64 s6, .int .i64 s7] 106, .box bk858 [uv64 (((0 : UInt64) ||| ((UInt64.ofNat (Int.toNat (x0 % 4294967296))) <<< UInt64.ofNat 0)) ||| ((UInt64.ofNat (Int.toNat (x1 % 4294967296))) <<< UInt64.ofNat 32)), uv64 (((0 : UInt64) ||| ((UInt64.ofNat (Int.toNat (x2 % 4294967296))) <<< UInt64.ofNat 0)) ||| ((UInt64.ofNat (Int.toNat (x3 % 4294967296))) <<< UInt64.ofNat 32)), uv64 (((0 : UInt64) ||| ((UInt64.ofNat (Int.toNat (x4 % 4294967296))) <<< UInt64.ofNat 0)) ||| ((UInt64.ofNat (Int.toNat (x5 % 4294967296))) <<< UInt64.ofNat 32)), uv64 ((0 : UInt64) ||| ((UInt64.ofNat (Int.toNat (x6 % 4294967296))) <<< UInt64.ofNat 0))] 24]) ?_ ?_
 ·
  refine draw_any (by kernel_rfl) 14 (by kernel_rfl) ?_
  have wo1126 := Hv1109.trans (Ev.drew Hv1109.heap)
  refine q_a [0,1,2,4,5,6,7,8,9,10] [(5, g_i .i64 (show IntKind.wrap .i64 ((BitVec.ofInt (IntKind.bits .i64) x6 &&& BitVec.ofInt (IntKind.bits .i64) (4294967295 : Int)).toNat : Int) = ((Int.toNat (x6 % 4294967296) : Nat) : Int) from m32 _)), (6, g_i .u64 (Go.Dbr.nat_to_u64 (a := ((Int.toNat (x6 % 4294967296) : Nat) : Int)) (n := Int.toNat (x6 % 4294967296)) rfl)), (10, g_i .u64 (Go.Dbr.u64_shl (x := UInt64.ofNat (Int.toNat (x6 % 4294967296))) (n := 0) rfl (by decide)))] 4 En1125 fun ac1137 En1138 => ?_
  refine q_u 3 ?_
  refine m_l 4 En1138 wo1126 fun ac1139 En1140 => ?_
  refine q_a [11,12] [(11, g_i .u64 (Go.Dbr.u64_or (x := (0 : UInt64)) (y := (UInt64.ofNat (Int.toNat (x6 % 4294967296))) <<< UInt64.ofNat 0) rfl rfl))] 1 En1140 fun ac1141 En1142 => ?_
  refine q_u 13 ?_
  refine m_s 4 [.box bk11 (u64s (List.replicate 4 0)) 24, .box bk23 (u64s T) 84, .box bk32 [ni d0, ni d1, ni d2, ni d3, ni d4, ni d5, ni d6, ni d7, ni d8, ni d9, ni d10, ni d11, ni d12, ni d13, ni d14, ni d15] 104, .box bk534 [.int .i64 s0, .int .i64 s1, .int .i64 s2, .int .i64 s3, .int .i64 s4, .int .i64 s5, .int .i64 s6, .int .i64 s7] 106, .box bk858 [uv64 (((0 : UInt64) ||| ((UInt64.ofNat (Int.toNat (x0 % 4294967296))) <<< UInt64.ofNat 0)) ||| ((UInt64.ofNat (Int.toNat (x1 % 4294967296))) <<< UInt64.ofNat 32)), uv64 (((0 : UInt64) ||| ((UInt64.ofNat (Int.toNat (x2 % 4294967296))) <<< UInt64.ofNat 0)) ||| ((UInt64.ofNat (Int.toNat (x3 % 4294967296))) <<< UInt64.ofNat 32)), uv64 (((0 : UInt64) ||| ((UInt64.ofNat (Int.toNat (x4 % 4294967296))) <<< UInt64.ofNat 0)) ||| ((UInt64.ofNat (Int.toNat (x5 % 4294967296))) <<< UInt64.ofNat 32)), uv64 ((0 : UInt64) ||| ((UInt64.ofNat (Int.toNat (x6 % 4294967296))) <<< UInt64.ofNat 0))] 24] En1142 wo1126 fun ac1143 wo1144 En1145 Hv1146 => ?_
  exact a_e ⟨En1145.sb, Hv1146.pk [0, 1, 2, 3, 4]⟩
 rintro ac1147 wo1148 ⟨En1149, Hv1150⟩
 refine then_normal ?_
 refine d_r [4,5,6,10,11,12,14,19,20,241,242] [(1, g_i .i64 (show Int.fdiv x6 (2 ^ 32) = x6 / 4294967296 from fdiv32 _))] En1149 fun ac1151 En1152 => ?_
 refine block_normal ?_
 refine then_normal ?_
 obtain ⟨c7, hc7⟩ : ∃ z : Int, z = x6 / 4294967296 := ⟨_, rfl⟩
 have En1153 := Env.fx (t := 12) (v := .int .i64 (x6 / 4294967296)) (u := .int .i64 c7) En1152 (by rw [hc7])
 have hcb7 : -20 ≤ c7 ∧ c7 ≤ 20 := by omega
 replace hx6 : Hid _ := hx6
 replace hc7 : Hid _ := hc7
 refine d_r [4,5,6,10,11,12,14,19,20,241,242] [] En1153 fun ac1154 En1155 => ?_
 refine then_normal ?_
 refine loop_once ?_
 refine wp_seq ?_
 refine d_r [4,5,6,10,11,12,14,19,20,241,242,243] [] En1155 fun ac1156 En1157 => ?_
 refine then_normal ?_
 refine wp_seq ?_
 refine c_t En1157 ?_
 refine wp_skip ?_
 refine then_normal ?_
 refine wp_seq ?_
 refine wp_block ?_
 refine wp_seq ?_
 refine region_from ?_
 refine d_k [4,5,6,10,11,12,14,19,20,241,242,244] [] 1 En1157 fun ac1158 En1159 => ?_
 refine f_o ?_
 refine q_v (x := Instr.index 106 (.agg #[.int .i64 s0, .int .i64 s1, .int .i64 s2, .int .i64 s3, .int .i64 s4, .int .i64 s5, .int .i64 s6, .int .i64 s7]) (.int .i64 7)) (v := .int .i64 s7) En1159 (Go.Dbr.run_indexval (e := 2) (m := 8) (cs := [.int .i64 s0, .int .i64 s1, .int .i64 s2, .int .i64 s3, .int .i64 s4, .int .i64 s5, .int .i64 s6, .int .i64 s7]) (j := 7) (v := .int .i64 s7) (by kernel_rfl) (by kernel_rfl) (by kernel_rfl) (by omega) (by omega) rfl _) fun ac1160 En1161 => ?_
 refine d_e [4,5,6,10,11,12,13,14,19,20,241,242] [] En1161 fun ac1162 En1163 => ?_
 refine then_normal ?_
 refine wp_seq ?_
 refine d_r [4,5,6,10,11,12,13,14,19,20,241,242] [(2, g_n (w_r (e := s7 + c7) (x := s7 + c7) (by omega)))] En1163 fun ac1164 En1165 => ?_
 refine then_normal ?_
 refine wp_seq ?_
 obtain ⟨x7, hx7⟩ : ∃ z : Int, z = s7 + c7 := ⟨_, rfl⟩
 have En1166 := Env.fx (t := 14) (v := .int .i64 (s7 + c7)) (u := .int .i64 x7) En1165 (by rw [hx7])
 refine r_c (fun ac wo => Env ac 296 [(4, pt bk11), (5, pt bk23), (6, pt bk32), (10, pt bk534), (11, pt bk858), (12, .int .i64 c7), (14, .int .i64 x7), (19, .agg (List.toArray (u64s T))), (20, .int .i64 8), (241, .agg #[.int .i64 s0, .int .i64 s1, .int .i64 s2, .int .i64 s3, .int .i64 s4, .int .i64 s5, .int .i64 s6, .int .i64 s7]), (242, .int .i64 7)] ∧ Ev w [] wo [.box bk11 (u64s (List.replicate 4 0)) 24, .box bk23 (u64s T) 84, .box bk32 [ni d0, ni d1, ni d2, ni d3, ni d4, ni d5, ni d6, ni d7, ni d8, ni d9, ni d10, ni d11, ni d12, ni d13, ni d14, ni d15] 104, .box bk534 [.int .i64 s0, .int .i64 s1, .int .i64 s2, .int .i64 s3, .int .i64 s4, .int .i64 s5, .int .i64 s6, .int .i64 s7] 106, .box bk858 [uv64 (((0 : UInt64) ||| ((UInt64.ofNat (Int.toNat (x0 % 4294967296))) <<< UInt64.ofNat 0)) ||| ((UInt64.ofNat (Int.toNat (x1 % 4294967296))) <<< UInt64.ofNat 32)), uv64 (((0 : UInt64) ||| ((UInt64.ofNat (Int.toNat (x2 % 4294967296))) <<< UInt64.ofNat 0)) ||| ((UInt64.ofNat (Int.toNat (x3 % 4294967296))) <<< UInt64.ofNat 32)), uv64 (((0 : UInt64) ||| ((UInt64.ofNat (Int.toNat (x4 % 4294967296))) <<< UInt64.ofNat 0)) ||| ((UInt64.ofNat (Int.toNat (x5 % 4294967296))) <<< UInt64.ofNat 32)), uv64 (((0 : UInt64) ||| ((UInt64.ofNat (Int.toNat (x6 % 4294967296))) <<< UInt64.ofNat 0)) ||| ((UInt64.ofNat (Int.toNat (x7 % 4294967296))) <<< UInt64.ofNat 32))] 24]) ?_ ?_
 ·
  refine draw_any (by kernel_rfl) 14 (by kernel_rfl) ?_
  have wo1167 := Hv1150.trans (Ev.drew Hv1150.heap)
  refine q_a [0,1,2,4,5,6,7,8,9,10] [(5, g_i .i64 (show IntKind.wrap .i64 ((BitVec.ofInt (IntKind.bits .i64) x7 &&& BitVec.ofInt (IntKind.bits .i64) (4294967295 : Int)).toNat : Int) = ((Int.toNat (x7 % 4294967296) : Nat) : Int) from m32 _)), (6, g_i .u64 (Go.Dbr.nat_to_u64 (a := ((Int.toNat (x7 % 4294967296) : Nat) : Int)) (n := Int.toNat (x7 % 4294967296)) rfl)), (10, g_i .u64 (Go.Dbr.u64_shl (x := UInt64.ofNat (Int.toNat (x7 % 4294967296))) (n := 32) rfl (by decide)))] 4 En1166 fun ac1178 En1179 => ?_
  refine q_u 3 ?_
  refine m_l 4 En1179 wo1167 fun ac1180 En1181 => ?_
  refine q_a [11,12] [(11, g_i .u64 (Go.Dbr.u64_or (x := (0 : UInt64) ||| ((UInt64.ofNat (Int.toNat (x6 % 4294967296))) <<< UInt64.ofNat 0)) (y := (UInt64.ofNat (Int.toNat (x7 % 4294967296))) <<< UInt64.ofNat 32) rfl rfl))] 1 En1181 fun ac1182 En1183 => ?_
  refine q_u 13 ?_
  refine m_s 4 [.box bk11 (u64s (List.replicate 4 0)) 24, .box bk23 (u64s T) 84, .box bk32 [ni d0, ni d1, ni d2, ni d3, ni d4, ni d5, ni d6, ni d7, ni d8, ni d9, ni d10, ni d11, ni d12, ni d13, ni d14, ni d15] 104, .box bk534 [.int .i64 s0, .int .i64 s1, .int .i64 s2, .int .i64 s3, .int .i64 s4, .int .i64 s5, .int .i64 s6, .int .i64 s7] 106, .box bk858 [uv64 (((0 : UInt64) ||| ((UInt64.ofNat (Int.toNat (x0 % 4294967296))) <<< UInt64.ofNat 0)) ||| ((UInt64.ofNat (Int.toNat (x1 % 4294967296))) <<< UInt64.ofNat 32)), uv64 (((0 : UInt64) ||| ((UInt64.ofNat (Int.toNat (x2 % 4294967296))) <<< UInt64.ofNat 0)) ||| ((UInt64.ofNat (Int.toNat (x3 % 4294967296))) <<< UInt64.ofNat 32)), uv64 (((0 : UInt64) ||| ((UInt64.ofNat (Int.toNat (x4 % 4294967296))) <<< UInt64.ofNat 0)) ||| ((UInt64.ofNat (Int.toNat (x5 % 4294967296))) <<< UInt64.ofNat 32)), uv64 (((0 : UInt64) ||| ((UInt64.ofNat (Int.toNat (x6 % 4294967296))) <<< UInt64.ofNat 0)) ||| ((UInt64.ofNat (Int.toNat (x7 % 4294967296))) <<< UInt64.ofNat 32))] 24] En1183 wo1167 fun ac1184 wo1185 En1186 Hv1187 => ?_
  exact a_e ⟨En1186.sb, Hv1187.pk [0, 1, 2, 3, 4]⟩
 rintro ac1188 wo1189 ⟨En1190, Hv1191⟩
 refine then_normal ?_
 refine d_r [4,5,6,10,11,12,14,19,20,241,242] [(1, g_i .i64 (show Int.fdiv x7 (2 ^ 32) = x7 / 4294967296 from fdiv32 _))] En1190 fun ac1192 En1193 => ?_
 refine block_normal ?_
 refine then_normal ?_
 obtain ⟨c8, hc8⟩ : ∃ z : Int, z = x7 / 4294967296 := ⟨_, rfl⟩
 have En1194 := Env.fx (t := 12) (v := .int .i64 (x7 / 4294967296)) (u := .int .i64 c8) En1193 (by rw [hc8])
 have hcb8 : -20 ≤ c8 ∧ c8 ≤ 20 := by omega
 replace hx7 : Hid _ := hx7
 replace hc8 : Hid _ := hc8
 refine d_r [4,5,6,10,11,12,14,19,20,241,242] [] En1194 fun ac1195 En1196 => ?_
 refine then_normal ?_
 refine loop_once ?_
 refine wp_seq ?_
 refine d_r [4,5,6,10,11,12,14,19,20,241,242,243] [] En1196 fun ac1197 En1198 => ?_
 refine then_normal ?_
 refine wp_seq ?_
 refine c_f En1198 ?_
 refine wp_exit ?_
 refine then_exit ?_
 refine then_exit ?_
 refine block_exit ?_
 refine then_normal ?_
 refine wp_seq ?_
 refine region_from ?_
 refine f_o ?_
 refine c_p En1198 Hv1191 (prime2_go _) fun ac1203 wo1200 En1204 Hv1205 => ?_
 refine f_o ?_
 refine m_z 24 (u64s (List.replicate 4 0)) En1204 Hv1205 fun ac1207 wo1208 bk1206 En1209 Hv1210 => ?_
 refine f_o ?_
 refine m_g 5 0 4 (u64s (nd (mF 2))) (u64s (nd (mF 2))) [.box bk11 (u64s (List.replicate 4 0)) 24, .box bk23 (u64s T) 84, .box bk32 [ni d0, ni d1, ni d2, ni d3, ni d4, ni d5, ni d6, ni d7, ni d8, ni d9, ni d10, ni d11, ni d12, ni d13, ni d14, ni d15] 104, .box bk534 [.int .i64 s0, .int .i64 s1, .int .i64 s2, .int .i64 s3, .int .i64 s4, .int .i64 s5, .int .i64 s6, .int .i64 s7] 106, .box bk858 [uv64 (((0 : UInt64) ||| ((UInt64.ofNat (Int.toNat (x0 % 4294967296))) <<< UInt64.ofNat 0)) ||| ((UInt64.ofNat (Int.toNat (x1 % 4294967296))) <<< UInt64.ofNat 32)), uv64 (((0 : UInt64) ||| ((UInt64.ofNat (Int.toNat (x2 % 4294967296))) <<< UInt64.ofNat 0)) ||| ((UInt64.ofNat (Int.toNat (x3 % 4294967296))) <<< UInt64.ofNat 32)), uv64 (((0 : UInt64) ||| ((UInt64.ofNat (Int.toNat (x4 % 4294967296))) <<< UInt64.ofNat 0)) ||| ((UInt64.ofNat (Int.toNat (x5 % 4294967296))) <<< UInt64.ofNat 32)), uv64 (((0 : UInt64) ||| ((UInt64.ofNat (Int.toNat (x6 % 4294967296))) <<< UInt64.ofNat 0)) ||| ((UInt64.ofNat (Int.toNat (x7 % 4294967296))) <<< UInt64.ofNat 32))] 24, .box bk1206 (u64s (nd (mF 2))) 24] En1209 Hv1210 rfl (u64s_lenh (nds_len _ _)) (by rw [(u64s_lenh (List.length_replicate))]; decide) (u64s_one _) (store_whole (u64s_lenh (List.length_replicate))) rfl fun ac1211 wo1212 En1213 Hv1214 => ?_
 refine f_e ?_
 refine then_normal ?_
 refine wp_seq ?_
 refine wp_block ?_
 refine loop_m (fun ms1215 ac wo => ∃ (o : List UInt64) (c : Int), ms1215 = (Int.toNat ((nv o : Nat) + c * (W256 : Nat)) : Nat) ∧ Env ac 296 [(4, pt bk11), (5, pt bk23), (6, pt bk32), (10, pt bk534), (11, pt bk858), (12, .int .i64 c), (14, .int .i64 x7), (15, pt bk1206), (19, .agg (List.toArray (u64s T))), (20, .int .i64 8), (241, .agg #[.int .i64 s0, .int .i64 s1, .int .i64 s2, .int .i64 s3, .int .i64 s4, .int .i64 s5, .int .i64 s6, .int .i64 s7]), (242, .int .i64 8)] ∧ Ev w [] wo [.box bk858 (u64s o) 24, .box bk11 (u64s (List.replicate 4 0)) 24, .box bk23 (u64s T) 84, .box bk32 [ni d0, ni d1, ni d2, ni d3, ni d4, ni d5, ni d6, ni d7, ni d8, ni d9, ni d10, ni d11, ni d12, ni d13, ni d14, ni d15] 104, .box bk534 [.int .i64 s0, .int .i64 s1, .int .i64 s2, .int .i64 s3, .int .i64 s4, .int .i64 s5, .int .i64 s6, .int .i64 s7] 106, .box bk1206 (u64s (nd (mF 2))) 24] ∧ (List.length o = 4) ∧ (-20 ≤ c) ∧ (c ≤ 20) ∧ (((nv o : Nat) + c * (W256 : Nat)) % (mF 2 : Nat) = ((nv a * nv b : Nat) : Int) % (mF 2 : Nat))) ⟨_, [((0 : UInt64) ||| ((UInt64.ofNat (Int.toNat (x0 % 4294967296))) <<< UInt64.ofNat 0)) ||| ((UInt64.ofNat (Int.toNat (x1 % 4294967296))) <<< UInt64.ofNat 32), ((0 : UInt64) ||| ((UInt64.ofNat (Int.toNat (x2 % 4294967296))) <<< UInt64.ofNat 0)) ||| ((UInt64.ofNat (Int.toNat (x3 % 4294967296))) <<< UInt64.ofNat 32), ((0 : UInt64) ||| ((UInt64.ofNat (Int.toNat (x4 % 4294967296))) <<< UInt64.ofNat 0)) ||| ((UInt64.ofNat (Int.toNat (x5 % 4294967296))) <<< UInt64.ofNat 32), ((0 : UInt64) ||| ((UInt64.ofNat (Int.toNat (x6 % 4294967296))) <<< UInt64.ofNat 0)) ||| ((UInt64.ofNat (Int.toNat (x7 % 4294967296))) <<< UInt64.ofNat 32)], c8, rfl, En1213.sb, Hv1214.pk [4, 0, 1, 2, 3, 5], rfl, by omega, by omega, p256_start hX hS hx0 hc1 hx1 hc2 hx2 hc3 hx3 hc4 hx4 hc5 hx5 hc6 hx6 hc7 hx7 hc8 (w32_val _ _) (w32_val _ _) (w32_val _ _) (w32_val _ _)⟩ ?_
 rintro mm1221 ac1217 wo1218 ⟨o, c, rfl, En1219, Hv1220, ho, hcl, hch, hV⟩
 refine wp_seq ?_
 refine wp_seq ?_
 refine d_r [4,5,6,10,11,12,14,15,19,20,241,242,267] [] En1219 fun ac1222 En1223 => ?_
 refine then_normal ?_
 refine c_d (c > (0 : Int)) En1223 (fun hc1224 => ?_) (fun hc1224 => ?_)
 ·
  refine wp_skip ?_
  refine then_normal ?_
  refine wp_seq ?_
  refine wp_block ?_
  refine wp_seq ?_
  refine d_r [4,5,6,10,11,12,14,15,16,19,20,241,242] [] En1223 fun ac1225 En1226 => ?_
  refine then_normal ?_
  refine wp_seq ?_
  refine region_from ?_
  refine f_o ?_
  refine m_a 0 0 4 (u64s o) En1226 Hv1220 rfl (load_whole (u64s_lenh ho)) (u64s_lenh ho) fun ac1227 En1228 => ?_
  refine f_o ?_
  refine m_a 5 0 4 (u64s (nd (mF 2))) En1228 Hv1220 rfl (load_whole (u64s_lenh (nds_len _ _))) (u64s_lenh (nds_len _ _)) fun ac1229 En1230 => ?_
  refine f_o ?_
  refine c_p En1230 Hv1220 (minus_go _ o (nd (mF 2)) ho (nds_len _ _)) fun ac1235 wo1232 En1236 Hv1237 => ?_
  refine d_k [4,5,6,10,11,12,14,15,16,19,20,241,242,274,275] [] 6 En1236 fun ac1238 En1239 => ?_
  refine f_o ?_
  refine m_g 0 0 4 (u64s (nd (nv o + W256 - nv (nd (mF 2))))) (u64s (nd (nv o + W256 - nv (nd (mF 2))))) [.box bk858 (u64s (nd (nv o + W256 - nv (nd (mF 2))))) 24, .box bk11 (u64s (List.replicate 4 0)) 24, .box bk23 (u64s T) 84, .box bk32 [ni d0, ni d1, ni d2, ni d3, ni d4, ni d5, ni d6, ni d7, ni d8, ni d9, ni d10, ni d11, ni d12, ni d13, ni d14, ni d15] 104, .box bk534 [.int .i64 s0, .int .i64 s1, .int .i64 s2, .int .i64 s3, .int .i64 s4, .int .i64 s5, .int .i64 s6, .int .i64 s7] 106, .box bk1206 (u64s (nd (mF 2))) 24] En1239 Hv1237 rfl (u64s_lenh (nds_len _ _)) (by rw [(u64s_lenh ho)]; decide) (u64s_one _) (store_whole (u64s_lenh ho)) rfl fun ac1240 wo1241 En1242 Hv1243 => ?_
  refine d_e [4,5,6,10,11,12,14,15,16,19,20,241,242] [] En1242 fun ac1244 En1245 => ?_
  refine then_normal ?_
  have hu1 := u1_le (nv o < nv (nd (mF 2)))
  refine d_r [4,5,6,10,11,12,14,15,19,20,241,242] [(2, g_i .i64 (Go.Dbr.wr64 (e := ((UInt64.toNat (u1 (nv o < nv (nd (mF 2)))) : Nat) : Int)) (x := ((UInt64.toNat (u1 (nv o < nv (nd (mF 2)))) : Nat) : Int)) rfl (by omega) (by omega))), (3, g_n (w_r (e := (1 : Int) - ((UInt64.toNat (u1 (nv o < nv (nd (mF 2)))) : Nat) : Int)) (x := (1 : Int) - ((UInt64.toNat (u1 (nv o < nv (nd (mF 2)))) : Nat) : Int)) (by omega))), (4, g_n (w_r (e := c + ((1 : Int) - ((UInt64.toNat (u1 (nv o < nv (nd (mF 2)))) : Nat) : Int))) (x := c + ((1 : Int) - ((UInt64.toNat (u1 (nv o < nv (nd (mF 2)))) : Nat) : Int))) (by omega)))] En1245 fun ac1246 En1247 => ?_
  refine block_normal ?_
  refine then_normal ?_
  refine d_r [4,5,6,10,11,12,14,15,19,20,241,242] [(1, g_n (w_r (e := c + ((1 : Int) - ((UInt64.toNat (u1 (nv o < nv (nd (mF 2)))) : Nat) : Int)) - (1 : Int)) (x := (c + ((1 : Int) - ((UInt64.toNat (u1 (nv o < nv (nd (mF 2)))) : Nat) : Int))) - (1 : Int)) (by omega)))] En1247 fun ac1248 En1249 => ?_
  refine then_normal ?_
  have hnx := down ho hV (by assumption)
  refine ⟨_, ⟨(nd (nv o + W256 - nv (nd (mF 2)))), (c + ((1 : Int) - ((UInt64.toNat (u1 (nv o < nv (nd (mF 2)))) : Nat) : Int))) - (1 : Int), rfl, En1249.sb, Hv1243.pk [0, 1, 2, 3, 4, 5], (nds_len _ _), by omega, by omega, hnx.1⟩, ?_⟩
  exact hnx.2
 ·
  refine wp_exit ?_
  refine then_exit ?_
  refine then_exit ?_
  refine block_exit ?_
  refine then_normal ?_
  refine wp_seq ?_
  refine wp_block ?_
  refine loop_m (fun ms1250 ac wo => ∃ (o : List UInt64) (c : Int), ms1250 = (Int.toNat (-((nv o : Nat) + c * (W256 : Nat))) : Nat) ∧ Env ac 296 [(4, pt bk11), (5, pt bk23), (6, pt bk32), (10, pt bk534), (11, pt bk858), (12, .int .i64 c), (14, .int .i64 x7), (15, pt bk1206), (19, .agg (List.toArray (u64s T))), (20, .int .i64 8), (241, .agg #[.int .i64 s0, .int .i64 s1, .int .i64 s2, .int .i64 s3, .int .i64 s4, .int .i64 s5, .int .i64 s6, .int .i64 s7]), (242, .int .i64 8)] ∧ Ev w [] wo [.box bk858 (u64s o) 24, .box bk11 (u64s (List.replicate 4 0)) 24, .box bk23 (u64s T) 84, .box bk32 [ni d0, ni d1, ni d2, ni d3, ni d4, ni d5, ni d6, ni d7, ni d8, ni d9, ni d10, ni d11, ni d12, ni d13, ni d14, ni d15] 104, .box bk534 [.int .i64 s0, .int .i64 s1, .int .i64 s2, .int .i64 s3, .int .i64 s4, .int .i64 s5, .int .i64 s6, .int .i64 s7] 106, .box bk1206 (u64s (nd (mF 2))) 24] ∧ (List.length o = 4) ∧ (-20 ≤ c) ∧ (c ≤ 0) ∧ (((nv o : Nat) + c * (W256 : Nat)) % (mF 2 : Nat) = ((nv a * nv b : Nat) : Int) % (mF 2 : Nat))) ⟨_, o, c, rfl, En1223.sb, Hv1220.pk [0, 1, 2, 3, 4, 5], ho, hcl, by omega, hV⟩ ?_
  rintro mm1256 ac1252 wo1253 ⟨o, c, rfl, En1254, Hv1255, ho, hcl, hch, hV⟩
  refine wp_seq ?_
  refine wp_seq ?_
  refine d_r [4,5,6,10,11,12,14,15,19,20,241,242,282] [] En1254 fun ac1257 En1258 => ?_
  refine then_normal ?_
  refine c_d (c < (0 : Int)) En1258 (fun hc1259 => ?_) (fun hc1259 => ?_)
  ·
   refine wp_skip ?_
   refine then_normal ?_
   refine wp_block ?_
   refine wp_seq ?_
   refine d_r [4,5,6,10,11,12,14,15,17,19,20,241,242] [] En1258 fun ac1260 En1261 => ?_
   refine then_normal ?_
   refine wp_seq ?_
   refine region_from ?_
   refine f_o ?_
   refine m_a 0 0 4 (u64s o) En1261 Hv1255 rfl (load_whole (u64s_lenh ho)) (u64s_lenh ho) fun ac1262 En1263 => ?_
   refine f_o ?_
   refine m_a 5 0 4 (u64s (nd (mF 2))) En1263 Hv1255 rfl (load_whole (u64s_lenh (nds_len _ _))) (u64s_lenh (nds_len _ _)) fun ac1264 En1265 => ?_
   refine f_o ?_
   refine c_p En1265 Hv1255 (plus_go _ o (nd (mF 2)) ho (nds_len _ _)) fun ac1270 wo1267 En1271 Hv1272 => ?_
   refine d_k [4,5,6,10,11,12,14,15,17,19,20,241,242,287,288] [] 6 En1271 fun ac1273 En1274 => ?_
   refine f_o ?_
   refine m_g 0 0 4 (u64s (nd (nv o + nv (nd (mF 2))))) (u64s (nd (nv o + nv (nd (mF 2))))) [.box bk858 (u64s (nd (nv o + nv (nd (mF 2))))) 24, .box bk11 (u64s (List.replicate 4 0)) 24, .box bk23 (u64s T) 84, .box bk32 [ni d0, ni d1, ni d2, ni d3, ni d4, ni d5, ni d6, ni d7, ni d8, ni d9, ni d10, ni d11, ni d12, ni d13, ni d14, ni d15] 104, .box bk534 [.int .i64 s0, .int .i64 s1, .int .i64 s2, .int .i64 s3, .int .i64 s4, .int .i64 s5, .int .i64 s6, .int .i64 s7] 106, .box bk1206 (u64s (nd (mF 2))) 24] En1274 Hv1272 rfl (u64s_lenh (nds_len _ _)) (by rw [(u64s_lenh ho)]; decide) (u64s_one _) (store_whole (u64s_lenh ho)) rfl fun ac1275 wo1276 En1277 Hv1278 => ?_
   refine d_e [4,5,6,10,11,12,14,15,17,19,20,241,242] [] En1277 fun ac1279 En1280 => ?_
   refine then_normal ?_
   have hu1 := u1_le (W256 ≤ nv o + nv (nd (mF 2)))
   refine d_r [4,5,6,10,11,12,14,15,19,20,241,242] [(2, g_i .i64 (Go.Dbr.wr64 (e := ((UInt64.toNat (u1 (W256 ≤ nv o + nv (nd (mF 2)))) : Nat) : Int)) (x := ((UInt64.toNat (u1 (W256 ≤ nv o + nv (nd (mF 2)))) : Nat) : Int)) rfl (by omega) (by omega))), (3, g_n (w_r (e := c + ((UInt64.toNat (u1 (W256 ≤ nv o + nv (nd (mF 2)))) : Nat) : Int)) (x := c + ((UInt64.toNat (u1 (W256 ≤ nv o + nv (nd (mF 2)))) : Nat) : Int)) (by omega)))] En1280 fun ac1281 En1282 => ?_
   refine block_normal ?_
   refine then_normal ?_
   have hnx := up ho hV (by assumption)
   refine ⟨_, ⟨(nd (nv o + nv (nd (mF 2)))), c + ((UInt64.toNat (u1 (W256 ≤ nv o + nv (nd (mF 2)))) : Nat) : Int), rfl, En1282.sb, Hv1278.pk [0, 1, 2, 3, 4, 5], (nds_len _ _), by omega, by omega, hnx.1⟩, ?_⟩
   exact hnx.2
  ·
   refine wp_exit ?_
   refine then_exit ?_
   refine then_exit ?_
   refine block_exit ?_
   refine then_normal ?_
   refine wp_seq ?_
   have hc0 : c = 0 := by omega
   refine region_from ?_
   refine f_o ?_
   refine m_a 0 0 4 (u64s o) En1258 Hv1255 rfl (load_whole (u64s_lenh ho)) (u64s_lenh ho) fun ac1283 En1284 => ?_
   refine f_o ?_
   refine m_a 5 0 4 (u64s (nd (mF 2))) En1284 Hv1255 rfl (load_whole (u64s_lenh (nds_len _ _))) (u64s_lenh (nds_len _ _)) fun ac1285 En1286 => ?_
   refine f_o ?_
   refine c_p En1286 Hv1255 (right_mF _ 2 (by decide) o ho) fun ac1291 wo1288 En1292 Hv1293 => ?_
   refine f_o ?_
   refine m_g 1 0 4 (u64s (nd (nv o % mF 2))) (u64s (nd (nv o % mF 2))) [.box bk858 (u64s o) 24, .box bk11 (u64s (nd (nv o % mF 2))) 24, .box bk23 (u64s T) 84, .box bk32 [ni d0, ni d1, ni d2, ni d3, ni d4, ni d5, ni d6, ni d7, ni d8, ni d9, ni d10, ni d11, ni d12, ni d13, ni d14, ni d15] 104, .box bk534 [.int .i64 s0, .int .i64 s1, .int .i64 s2, .int .i64 s3, .int .i64 s4, .int .i64 s5, .int .i64 s6, .int .i64 s7] 106, .box bk1206 (u64s (nd (mF 2))) 24] En1292 Hv1293 rfl (u64s_lenh (nds_len _ _)) (by rw [(u64s_lenh (List.length_replicate))]; decide) (u64s_one _) (store_whole (u64s_lenh (List.length_replicate))) rfl fun ac1294 wo1295 En1296 Hv1297 => ?_
   refine f_e ?_
   refine then_normal ?_
   refine wp_ret ?_
   refine d_cell1 (v := .agg (List.toArray (u64s (nd (nv o % mF 2))))) (t := 4) (T := 24) (ad := ⟨bk11, 0, none⟩) En1296 (by kernel_rfl) (by kernel_rfl) (Ev.cellAgg (t := 24) (k := 1) (off := 0) (m := 4) (xs := u64s (nd (nv o % mF 2))) Hv1297 rfl (load_whole (u64s_lenh (nds_len _ _))) (u64s_lenh (nds_len _ _)) (by kernel_rfl) (by kernel_rfl)) ?_
   have e : nd (nv o % mF 2) = nd (nv a * nv b % mF 2) := p256_end hV hc0
   exact ⟨congrArg (fun l : List UInt64 => Ending.returned (Value.agg (u64s l).toArray)) e, Hv1297.pk []⟩

theorem mul2_go (w : World) (a b : List UInt64) (ha : List.length a = 4) (hb : List.length b = 4) : Calls Try.prog 64 #[.int .i64 2, .agg (List.toArray (u64s a)), .agg (List.toArray (u64s b))] w fun e w' => e = .returned (.agg (List.toArray (u64s (nd (mulM 2 (nv a) (nv b)))))) ∧ Ev w [] w' [] := by
 refine d_0 [(0, .int .i64 2), (1, .agg (List.toArray (u64s a))), (2, .agg (List.toArray (u64s b)))] 45 Go.Proofs.Try.func64 Go.Proofs.Try.ntmps64 (Heap.nil _) fun act0 En0 Hv0 => ?_
 refine wp_seq ?_
 refine region_from ?_
 refine f_o ?_
 refine m_m 24 (u64s a) En0 Hv0 fun ac2 wo3 bk1 En4 Hv5 => ?_
 refine f_o ?_
 refine m_m 24 (u64s b) En4 Hv5 fun ac7 wo8 bk6 En9 Hv10 => ?_
 refine f_o ?_
 refine m_z 24 (u64s (List.replicate 4 0)) En9 Hv10 fun ac12 wo13 bk11 En14 Hv15 => ?_
 refine f_e ?_
 refine then_normal ?_
 refine wp_seq ?_
 refine d_s [0,4,5,6,9] [] En14 fun ac16 En17 => ?_
 refine wp_block ?_
 refine d_s [0,4,5,6,9,10] [] En17 fun ac18 En19 => ?_
 refine c_f En19 ?_
 refine d_s [0,4,5,6,9,15] [] En19 fun ac20 En21 => ?_
 refine c_t En21 ?_
 refine wp_seq ?_
 refine region_from ?_
 refine f_o ?_
 refine m_a 0 0 4 (u64s a) En21 Hv15 rfl (load_whole (u64s_lenh ha)) (u64s_lenh ha) fun ac22 En23 => ?_
 refine f_o ?_
 refine m_a 1 0 4 (u64s b) En23 Hv15 rfl (load_whole (u64s_lenh hb)) (u64s_lenh hb) fun ac24 En25 => ?_
 refine f_o ?_
 refine c_p En25 Hv15 (mul256_go _ a b ha hb) fun ac30 wo27 En31 Hv32 => ?_
 refine f_o ?_
 refine m_g 2 0 4 (u64s (nd (nv a * nv b % mF 2))) (u64s (nd (nv a * nv b % mF 2))) [.box bk1 (u64s a) 24, .box bk6 (u64s b) 24, .box bk11 (u64s (nd (nv a * nv b % mF 2))) 24] En31 Hv32 rfl (u64s_lenh (nds_len _ _)) (by rw [(u64s_lenh (List.length_replicate))]; decide) (u64s_one _) (store_whole (u64s_lenh (List.length_replicate))) rfl fun ac33 wo34 En35 Hv36 => ?_
 refine f_e ?_
 refine then_normal ?_
 refine wp_ret ?_
 refine block_ret ?_
 refine then_ret ?_
 refine d_cell1 (v := .agg (List.toArray (u64s (nd (nv a * nv b % mF 2))))) (t := 6) (T := 24) (ad := ⟨bk11, 0, none⟩) En35 (by kernel_rfl) (by kernel_rfl) (Ev.cellAgg (t := 24) (k := 2) (off := 0) (m := 4) (xs := u64s (nd (nv a * nv b % mF 2))) Hv36 rfl (load_whole (u64s_lenh (nds_len _ _))) (u64s_lenh (nds_len _ _)) (by kernel_rfl) (by kernel_rfl)) ?_
 exact ⟨rfl, Hv36.pk []⟩

theorem hM2 : MulOk 2 := mul2_go
end Go.Proofs.Ytpfhmbbiadpbeaa
