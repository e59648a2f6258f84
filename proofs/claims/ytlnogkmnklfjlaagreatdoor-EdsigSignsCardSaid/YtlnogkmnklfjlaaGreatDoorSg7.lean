import Derived.Test.YtlnogkmnklfjlaaGreatDoorSg6
open List renaming getD → za, length → zb, replicate → zd, toArray → zg, length_replicate → zi, set → zp, getD_eq_getElem?_getD → zI, getElem?_eq_getElem → zN, set_set → Xt
open UInt64 renaming ofNat → zc, toNat → zw, toNat_shiftLeft → Qq, toNat_inj → Qr, toNat_and → QV, toNat_or → Ya, toNat_sub → YZ
open Go.Dbr renaming then_normal → ze, u64s_lenh → zf, u64s → zh, region_from → zk, uv64 → zm, load_whole → zq, u64s_one → zt, block_normal → zv, u64s_getD → zx, then_exit → zy, loop_once → zF, block_exit → zL, run_loadAgg2 → zM, m_gw → zQ, d_cell1 → z9, run_load1 → Zf, m_aw → Zp, then_ret → ZE, loop_m → ZR, u64s_set → ZU, d_cell_tmp → Z6, lt64 → Qb, region_cut → QH, loop_enter → QI
open Go.Proofs.YtlnogkmnklfjlaaGreatDoor renaming nds_len → zl, mulM → zr, powM → zJ, W256 → zU, subM → z7, n32_len → ZM, getD_set_ne → Qt, nv_nd → Qw, getD_set_eq → Ys, n32_dig → YG, n32_get → Jz
open Go.Dbr.Ev renaming cellAgg → zB, drew → zO
open Nat renaming mod_eq_of_lt → zG, mul_comm → zZ, pow_succ → z8, mul_assoc → Ze, add_mul → Zo, lt_trans → Zu, div_div_eq_div_mul → Zv, add_zero → Zx, shiftLeft_eq → Zy, mul_le_mul_right → Z0, shiftLeft_add_eq_or_of_lt → Z3, mul_zero → Z5, lt_or_ge → Qe, pow_mul → Qx, lt_of_le_of_lt → QK, div_one → Yr, div_eq_of_lt → Yx, and_one_is_mod → YH, div_lt_of_lt_mul → YW, mul_pos → JK, or_comm → JQ, div_le_self → JS, pow_pos → XM
open Bool renaming eq_false_or_eq_true → ZB
open Go.Dbr.Env renaming fx → X4
namespace Go.Proofs.YtlnogkmnklfjlaaGreatDoor
open Go.Dbr
set_option maxRecDepth 100000
set_option maxHeartbeats 2000000
set_option linter.unusedVariables false
set_option linter.unusedSimpArgs false
theorem n32_ext {l : List UInt64} {k n : Nat} (hl : l.length = k) (h : ∀ j, j < k → (za l j 0).toNat = n / 4294967296 ^ j % 4294967296) : l = n32 k n := by
  refine List.ext_getElem (by rw [hl, ZM]) fun j h1 h2 => ?_
  apply Qr.1
  have a := h j (by omega)
  have b := Jz k n j (by omega)
  rw [zI, zN h1] at a
  rw [zI, zN h2] at b
  exact a.trans b.symm
theorem shr_n (x : UInt64) {n : Nat} (h : n < 64) : (x >>> zc n).toNat = x.toNat / 2 ^ n := by
  rw [UInt64.toNat_shiftRight, Nat.shiftRight_eq_div_pow, ofNat_val, zG (a := n) (by omega), zG h]
theorem half_dig {x y : UInt64} (hx : x.toNat < 4294967296) : ((x >>> zc 1) ||| ((y &&& 1) <<< zc 31)).toNat = x.toNat / 2 + y.toNat % 2 * 2147483648 := by
  rw [Ya, shr_n x (by decide), Qq, QV, show (1 : UInt64).toNat = 1 from rfl, YH, show (zc 31).toNat % 64 = 31 from rfl]
  rw [zG (by rw [Zy]; omega), JQ, ← Z3 (by omega), Zy]
  omega
theorem dbl_lo (x : UInt64) : ((x <<< zc 1) &&& 4294967295).toNat = 2 * x.toNat % 4294967296 := by
  have := Qb x
  rw [and_low, Qq, show (zc 1).toNat % 64 = 1 from rfl, Zy]
  omega
theorem dbl_dig {x y : UInt64} (hy : y.toNat < 4294967296) : (((x <<< zc 1) &&& 4294967295) ||| (y >>> zc 31)).toNat = 2 * x.toNat % 4294967296 + y.toNat / 2147483648 := by
  rw [Ya, dbl_lo, shr_n y (by decide)]
  have e : 2 * x.toNat % 4294967296 = (x.toNat % 2147483648) <<< 1 := by rw [Zy]; omega
  rw [e, ← Z3 (by omega)]
theorem dig_half (X j : Nat) : X / 2 / 4294967296 ^ j % 4294967296 = X / 4294967296 ^ j % 4294967296 / 2 + X / 4294967296 ^ (j + 1) % 4294967296 % 2 * 2147483648 := by
  rw [Zv, zZ 2, ← Zv, z8, ← Zv]
  omega
theorem dig_dbl (X j : Nat) : 2 * X / 4294967296 ^ (j + 1) % 4294967296 = 2 * (X / 4294967296 ^ (j + 1) % 4294967296) % 4294967296 + X / 4294967296 ^ j % 4294967296 / 2147483648 := by
  have e : 2 * X / 4294967296 ^ (j + 1) = X / 4294967296 ^ j / 2147483648 := by
    rw [z8, show 4294967296 ^ j * 4294967296 = 2 * (4294967296 ^ j * 2147483648) by omega, Nat.mul_div_mul_left _ _ (by decide), Zv]
  rw [e, z8, ← Zv]
  omega
def Two (X Y i : Nat) (u : List UInt64) : Prop := ∀ j, j < 17 → (za u j 0).toNat = (if j < i then X else Y) / 4294967296 ^ j % 4294967296
theorem Two.zero {X Y : Nat} : Two X Y 0 (n32 17 Y) := fun j hj => by rw [if_neg (by omega)]; exact Jz 17 Y j hj
theorem Two.all {X Y i : Nat} {u : List UInt64} (hu : u.length = 17) (hi : i = 17) (h : Two X Y i u) : u = n32 17 X := n32_ext hu fun j hj => by
  have := h j hj
  rwa [if_pos (by omega)] at this
theorem Two.step {X Y i : Nat} {u : List UInt64} {d : UInt64} (hu : u.length = 17) (hi : i < 17) (h : Two X Y i u) (hd : d.toNat = X / 4294967296 ^ i % 4294967296) : Two X Y (i + 1) (zp u i d) := fun j hj => by
  by_cases e : i = j
  · subst e
    rw [Ys _ (by omega), hd, if_pos (by omega)]
  · rw [Qt _ e, h j hj]
    by_cases e2 : j < i
    · rw [if_pos e2, if_pos (by omega)]
    · rw [if_neg e2, if_neg (by omega)]
theorem half_in {X i : Nat} {u : List UInt64} (hu : u.length = 17) (hi : i < 16) (h : Two (X / 2) X i u) : Two (X / 2) X (i + 1) (zp (zp u i (za u i 0 >>> zc 1)) i (za (zp u i (za u i 0 >>> zc 1)) i 0 ||| ((za (zp u i (za u i 0 >>> zc 1)) (i + 1) 0 &&& 1) <<< zc 31))) := by
  rw [Xt, Ys _ (by omega), Qt _ (by omega)]
  have e1 := h i (by omega)
  have e2 := h (i + 1) (by omega)
  rw [if_neg (by omega)] at e1 e2
  refine Two.step hu (by omega) h ?_
  rw [half_dig (by rw [e1]; omega), e1, e2, dig_half]
theorem half_last {X i : Nat} {u : List UInt64} (hX : X < 4294967296 ^ 17) (hu : u.length = 17) (hi : i = 16) (h : Two (X / 2) X i u) : Two (X / 2) X (i + 1) (zp u i (za u i 0 >>> zc 1)) := by
  have e1 := h i (by omega)
  rw [if_neg (by omega)] at e1
  refine Two.step hu (by omega) h ?_
  rw [shr_n _ (by decide), e1, dig_half, show X / 4294967296 ^ (i + 1) = 0 by rw [hi]; exact Yx hX]
  omega
theorem dbl_in {X i : Nat} {u : List UInt64} (hu : u.length = 17) (hi : i < 17) (h0 : 0 < i) (h : Two (2 * X) 0 i u) : Two (2 * X) 0 (i + 1) (zp (zp u i ((za (n32 17 X) i 0 <<< zc 1) &&& 4294967295)) i (za (zp u i ((za (n32 17 X) i 0 <<< zc 1) &&& 4294967295)) i 0 ||| (za (n32 17 X) (i - 1) 0 >>> zc 31))) := by
  rw [Xt, Ys _ (by omega)]
  refine Two.step hu hi h ?_
  have e1 := Jz 17 X i hi
  have e2 := Jz 17 X (i - 1) (by omega)
  have e3 := dig_dbl X (i - 1)
  rw [show i - 1 + 1 = i by omega] at e3
  rw [dbl_dig (by rw [e2]; omega), e1, e2, e3]
theorem dbl_0 {X i : Nat} {u : List UInt64} (hu : u.length = 17) (h0 : i = 0) (h : Two (2 * X) 0 i u) : Two (2 * X) 0 (i + 1) (zp u i ((za (n32 17 X) i 0 <<< zc 1) &&& 4294967295)) := by
  subst h0
  refine Two.step hu (by omega) h ?_
  rw [dbl_lo, Jz 17 X 0 (by decide), Nat.pow_zero, Yr, Yr]
  omega
theorem Two.zeros {X : Nat} : Two X 0 0 (zd 17 0) := fun j hj => by
  rw [zeros17, if_neg (by omega), Nat.zero_div]; rfl
theorem dk_same {a b : List UInt64} {q : Nat} : ∀ k, (∀ j, q ≤ j → j < q + k → za a j 0 = za b j 0) → dk a (q + k) + dk b q = dk b (q + k) + dk a q
  | 0, _ => by rw [Zx, Nat.add_comm]
  | k + 1, h => by
    have ih := dk_same k fun j h1 h2 => h j h1 (by omega)
    have e := h (q + k) (by omega) (by omega)
    rw [← Nat.add_assoc, dk, dk, e]
    omega
theorem dk17 {a : List UInt64} (ha : a.length = 17) : dv 4294967296 a = dk a 17 := by
  have e := dk_split a 17
  rw [List.drop_eq_nil_of_le (by omega), show dv 4294967296 [] = 0 from rfl, Z5, Zx] at e
  exact e
theorem lower_at {a b : List UInt64} (ha : a.length = 17) (hb : b.length = 17) (da : DG a) (db : DG b) {i : Nat} (hi : i < 17) (hs : ∀ j, i + 1 ≤ j → j < 17 → za a j 0 = za b j 0) (hne : ¬ (((za a i 0).toNat : Nat) : Int) = (((za b i 0).toNat : Nat) : Int)) : (((za a i 0).toNat : Nat) : Int) < (((za b i 0).toNat : Nat) : Int) ↔ dv 4294967296 a < dv 4294967296 b := by
  have e := dk_same (a := a) (b := b) (q := i + 1) (17 - (i + 1)) fun j h1 h2 => hs j h1 (by omega)
  rw [show i + 1 + (17 - (i + 1)) = 17 by omega] at e
  rw [dk17 ha, dk17 hb]
  rw [show dk b (i + 1) = dk b i + (za b i 0).toNat * 4294967296 ^ i from rfl, show dk a (i + 1) = dk a i + (za a i 0).toNat * 4294967296 ^ i from rfl] at e
  have l1 := dk_lt da i
  have l2 := dk_lt db i
  generalize 4294967296 ^ i = q at *
  constructor
  · intro h
    have : (za a i 0).toNat + 1 ≤ (za b i 0).toNat := by omega
    have := Z0 q this
    rw [Zo] at this
    omega
  · intro h
    rcases Qe (za a i 0).toNat (za b i 0).toNat with g | g
    · omega
    · have : (za b i 0).toNat + 1 ≤ (za a i 0).toNat := by omega
      have := Z0 q this
      rw [Zo] at this
      omega
theorem lower_eq {a b : List UInt64} (ha : a.length = 17) (hb : b.length = 17) (hs : ∀ j, 0 ≤ j → j < 17 → za a j 0 = za b j 0) : ¬ dv 4294967296 a < dv 4294967296 b := by
  have e := dk_same (a := a) (b := b) (q := 0) 17 fun j h1 h2 => hs j h1 (by omega)
  rw [Nat.zero_add] at e
  rw [dk17 ha, dk17 hb]
  simp only [dk] at *
  omega
theorem halved_go (w : World) (X : Nat) (hX : X < 4294967296 ^ 17) : Calls Tryz.prog 112 #[.agg (zg (zh (n32 17 X)))] w fun e w' => e = .returned (.agg (zg (zh (n32 17 (X / 2))))) ∧ Ev w [] w' [] := by
 refine d_0 [(0, .agg (zg (zh (n32 17 X))))] 29 Go.Proofs.Tryz.func112 Go.Proofs.Tryz.ntmps112 (Heap.nil _) fun EQ ER ES => wp_seq <| zk <| f_o <| m_m 87 (zh (n32 17 X)) ER ES fun _ _ Eb ET EU => f_o <| m_z 87 (zh (zd 17 0)) ET EU fun _ _ Eh EV EC => f_e <| ze <| wp_seq <| d_s [1,2,3] [] EV fun _ ED => ?_
 refine wp_block <| ZR (fun EE ac wo => ∃ (i : Nat) (u : List UInt64), EE = (18 - i : Nat) ∧ Env ac 29 [(1, pt Eb), (2, pt Eh), (3, ni i)] ∧ Ev w [] wo [.box Eb (zh u) 87, .box Eh (zh (zd 17 0)) 87] ∧ (i ≤ 17) ∧ (zb u = 17) ∧ (Two (X / 2) X i u)) ⟨_, 0, n32 17 X, rfl, ED.sb, EC.pk [0, 1], by omega, ZM _ _, Two.zero⟩ ?_
 rintro EW _ _ ⟨i, u, rfl, EF, Ec, hi, hu, h2⟩
 refine wp_seq <| d_s [1,2,3,5] [] EF fun _ Ee => ?_
 refine c_d (((i : Nat) : Int) < (17 : Int)) Ee (fun EG => ?_) (fun EG => ?_)
 ·
  refine wp_skip <| ze <| wp_seq <| wp_block <| wp_seq <| zk <| d_k [1,2,3,8,9] [] 2 Ee fun _ EH => f_o <| q_v (x := Instr.indexAt 87 (pt Eb) (ni i)) (v := .pointer (some ⟨Eb, i, none⟩)) EH (Go.Dbr.run_indexarr (e := 31) (sz := 1) (m := 17) (j := i) (o := i) (by kernel_rfl) (by kernel_rfl) (by omega) (by omega) (by omega) _) fun _ EI => f_o ?_
  have EJ : i < zb u := by rw [hu]; omega
  refine m_v 0 i (zm (za u i 0)) EI Ec rfl (zx EJ) fun _ EK => d_k [1,2,3,8,12] [(4, g_i .u64 (Go.Dbr.u64_shr (x := za u i 0) (n := 1) rfl (by decide)))] 5 EK fun _ EL => f_o <| q_v (x := Instr.indexAt 87 (pt Eb) (ni i)) (v := .pointer (some ⟨Eb, i, none⟩)) EL (Go.Dbr.run_indexarr (e := 31) (sz := 1) (m := 17) (j := i) (o := i) (by kernel_rfl) (by kernel_rfl) (by omega) (by omega) (by omega) _) fun _ EM => f_o ?_
  have EN : i < zb u := by rw [hu]; omega
  refine m_t 0 i (zm ((za u i 0) >>> zc 1)) _ EM Ec rfl (zx EN) (ZU _ _ _) rfl fun _ _ EO Ef => f_e <| ze <| d_s [1,2,3,15] [] EO fun _ Eg => ?_
  refine c_d (((i : Nat) : Int) < (16 : Int)) Eg (fun EP => ?_) (fun EP => ?_)
  ·
   refine r_c (fun ac wo => Env ac 29 [(1, pt Eb), (2, pt Eh), (3, ni i)] ∧ Ev w [] wo [.box Eb (zh (zp (zp u i ((za u i 0) >>> zc 1)) i ((za (zp u i ((za u i 0) >>> zc 1)) i 0) ||| (((za (zp u i ((za u i 0) >>> zc 1)) (i + 1) 0) &&& (1 : UInt64)) <<< zc 31)))) 87, .box Eh (zh (zd 17 0)) 87]) ?_ ?_
   ·
    refine h_s (fun wv => Ev w [] wv [.box Eb (zh (zp u i ((za u i 0) >>> zc 1))) 87]) [12] 13 ?_
    have Ea := Ef.trans (zO Ef.heap)
    refine q_s [0,1] [] 11 Eg (Ea.pk [0]) fun _ Ei => q_f 2 (s := Instr.indexAt 87 (pt Eb) (ni i)) (v := .pointer (some ⟨Eb, i, none⟩)) Ei (fun _ => Go.Dbr.run_indexarr (e := 31) (sz := 1) (m := 17) (j := i) (o := i) (by kernel_rfl) (by kernel_rfl) (by omega) (by omega) (by omega) _) (fun _ => Ea.pk [0]) fun _ Ej => ?_
    have Ek : i < zb (zp u i ((za u i 0) >>> zc 1)) := by rw [(List.length_set.trans hu)]; omega
    refine q_r 3 (s := Instr.loadAt 31 (.pointer (some ⟨Eb, i, none⟩))) (v := zm (za (zp u i ((za u i 0) >>> zc 1)) i 0)) Ej (fun w hS => Zf (by kernel_rfl) (hS.heap.cell (k := 0) rfl (zx Ek))) (Ea.pk [0]) fun _ El => q_s [4,5] [(5, g_n (w_a i 1))] 7 El (Ea.pk [0]) fun _ Em => q_f 6 (s := Instr.indexAt 87 (pt Eb) (ni (i + 1))) (v := .pointer (some ⟨Eb, i + 1, none⟩)) Em (fun _ => Go.Dbr.run_indexarr (e := 31) (sz := 1) (m := 17) (j := i + 1) (o := i + 1) (by kernel_rfl) (by kernel_rfl) (by omega) (by omega) (by omega) _) (fun _ => Ea.pk [0]) fun _ En => ?_
    have Eo : i + 1 < zb (zp u i ((za u i 0) >>> zc 1)) := by rw [(List.length_set.trans hu)]; omega
    refine q_r 7 (s := Instr.loadAt 31 (.pointer (some ⟨Eb, i + 1, none⟩))) (v := zm (za (zp u i ((za u i 0) >>> zc 1)) (i + 1) 0)) En (fun w hS => Zf (by kernel_rfl) (hS.heap.cell (k := 0) rfl (zx Eo))) (Ea.pk [0]) fun _ Ep => q_s [8,9,10] [(8, g_i .u64 (Go.Dbr.u64_and (x := za (zp u i ((za u i 0) >>> zc 1)) (i + 1) 0) (y := (1 : UInt64)) rfl rfl)), (9, g_i .u64 (Go.Dbr.u64_shl (x := (za (zp u i ((za u i 0) >>> zc 1)) (i + 1) 0) &&& (1 : UInt64)) (n := 31) rfl (by decide))), (10, g_i .u64 (Go.Dbr.u64_or (x := za (zp u i ((za u i 0) >>> zc 1)) i 0) (y := ((za (zp u i ((za u i 0) >>> zc 1)) (i + 1) 0) &&& (1 : UInt64)) <<< zc 31) rfl rfl))] 2 Ep (Ea.pk [0]) fun _ Eq => q_f 11 (s := Instr.indexAt 87 (pt Eb) (ni i)) (v := .pointer (some ⟨Eb, i, none⟩)) Eq (fun _ => Go.Dbr.run_indexarr (e := 31) (sz := 1) (m := 17) (j := i) (o := i) (by kernel_rfl) (by kernel_rfl) (by omega) (by omega) (by omega) _) (fun _ => Ea.pk [0]) fun _ Er => q_t 12 ?_
    have Es : i < zb (zp u i ((za u i 0) >>> zc 1)) := by rw [(List.length_set.trans hu)]; omega
    refine m_t 0 i (zm ((za (zp u i ((za u i 0) >>> zc 1)) i 0) ||| (((za (zp u i ((za u i 0) >>> zc 1)) (i + 1) 0) &&& (1 : UInt64)) <<< zc 31))) [.box Eb (zh (zp (zp u i ((za u i 0) >>> zc 1)) i ((za (zp u i ((za u i 0) >>> zc 1)) i 0) ||| (((za (zp u i ((za u i 0) >>> zc 1)) (i + 1) 0) &&& (1 : UInt64)) <<< zc 31)))) 87, .box Eh (zh (zd 17 0)) 87] Er Ea rfl (zx Es) (ZU _ _ _) rfl fun _ _ Et Eu => ⟨q_y, ?_⟩
    exact h_e ⟨Et.sb, Eu.pk [0, 1]⟩
   rintro _ _ ⟨Ew, Ex⟩
   refine zv <| ze <| d_r [1,2,3] [(1, g_n (w_a i 1))] Ew fun _ Ey => ze <| ⟨_, ⟨i + 1, (zp (zp u i ((za u i 0) >>> zc 1)) i ((za (zp u i ((za u i 0) >>> zc 1)) i 0) ||| (((za (zp u i ((za u i 0) >>> zc 1)) (i + 1) 0) &&& (1 : UInt64)) <<< zc 31))), rfl, Ey.sb, Ex.pk [0, 1], by omega, (by simp [hu]), (by first | exact half_in hu (by omega) h2 | exact half_last hX hu (by omega) h2)⟩, ?_⟩
   omega
  refine wp_skip <| zv <| ze <| d_r [1,2,3] [(1, g_n (w_a i 1))] Eg fun _ Ez => ze <| ⟨_, ⟨i + 1, (zp u i ((za u i 0) >>> zc 1)), rfl, Ez.sb, Ef.pk [0, 1], by omega, (by simp [hu]), (by first | exact half_in hu (by omega) h2 | exact half_last hX hu (by omega) h2)⟩, ?_⟩
  omega
 refine wp_exit <| zy <| zy <| zL <| ze <| wp_seq <| zk <| f_o <| Zp 0 17 (zh u) Ee Ec rfl (zf hu) fun _ EA => f_o <| zQ 1 17 (zh u) _ EA Ec rfl (zf hu) (zf (zi)) (zt _) rfl fun _ _ EB Ed => f_e <| ze <| wp_ret <| z9 (v := .agg (zg (zh u))) (t := 2) (T := 87) (ad := ⟨Eh, 0, none⟩) EB (by kernel_rfl) (by kernel_rfl) (zB (t := 87) (k := 1) (off := 0) (m := 17) (xs := zh u) Ed rfl (zq (zf hu)) (zf hu) (by kernel_rfl) (by kernel_rfl)) ?_
 have hue := Two.all hu (by omega) h2
 subst hue
 exact ⟨rfl, Ed.pk []⟩
theorem lower_go (w : World) (a b : List UInt64) (ha : zb a = 17) (hb : zb b = 17) (da : DG a) (db : DG b) : Calls Tryz.prog 111 #[.agg (zg (zh a)), .agg (zg (zh b))] w fun e w' => e = .returned (.bool (decide (dv 4294967296 a < dv 4294967296 b))) ∧ Ev w [] w' [] := by
 refine d_0 [(0, .agg (zg (zh a))), (1, .agg (zg (zh b)))] 24 Go.Proofs.Tryz.func111 Go.Proofs.Tryz.ntmps111 (Heap.nil _) fun EN EO EP => wp_seq <| zk <| f_o <| m_m 87 (zh a) EO EP fun _ _ Ec EQ ER => f_o <| m_m 87 (zh b) EQ ER fun _ _ Ed ES Ew => d_e [2,3,4] [] ES fun _ Ex => ?_
 refine ze <| wp_seq <| wp_seq <| d_r [2,3,4,5] [] Ex fun _ Ey => ze <| wp_block <| ZR (fun Ez ac wo => ∃ (q : Nat), Ez = (q + 1 : Nat) ∧ Env ac 24 [(2, pt Ec), (3, pt Ed), (5, .int .i64 (((q : Nat) : Int) - (1 : Int)))] ∧ Ev w [] wo [.box Ec (zh a) 87, .box Ed (zh b) 87] ∧ (q ≤ 17) ∧ (∀ j, q ≤ j → j < 17 → za a j 0 = za b j 0)) ⟨_, 17, rfl, Ey.sb, Ew.pk [0, 1], by omega, fun j h1 h2 => by omega⟩ ?_
 rintro ET _ _ ⟨q, rfl, EA, Ee, hq, hs⟩
 refine wp_seq <| wp_seq <| d_r [2,3,5,7] [] EA fun _ Ef => ?_
 refine ze <| c_d (((q : Nat) : Int) - (1 : Int) ≥ (0 : Int)) Ef (fun EB => ?_) (fun EB => ?_)
 ·
  refine wp_skip <| ze <| wp_seq <| wp_block <| wp_seq ?_
  have EC := X4 (t := 5) (v := .int .i64 (((q : Nat) : Int) - (1 : Int))) (u := ni (q - 1)) Ef (congrArg (Value.int .i64) (show ((q : Nat) : Int) - (1 : Int) = ((q - 1 : Nat) : Int) by omega))
  refine r_c (fun ac wo => Env ac 24 [(2, pt Ec), (3, pt Ed), (5, ni (q - 1)), (16, .bool (((zw (za a (q - 1) 0) : Nat) : Int) != ((zw (za b (q - 1) 0) : Nat) : Int)))] ∧ Ev w [] wo [.box Ec (zh a) 87, .box Ed (zh b) 87]) ?_ ?_
  ·
   refine h_s (fun wv => Ev w [] wv [.box Ec (zh a) 87, .box Ed (zh b) 87]) [] 7 ?_
   have Ea := Ee.trans (zO Ee.heap)
   refine q_s [0] [] 6 EC (Ea.pk [0, 1]) fun _ ED => q_f 1 (s := Instr.indexAt 87 (pt Ec) (ni (q - 1))) (v := .pointer (some ⟨Ec, q - 1, none⟩)) ED (fun _ => Go.Dbr.run_indexarr (e := 31) (sz := 1) (m := 17) (j := q - 1) (o := q - 1) (by kernel_rfl) (by kernel_rfl) (by omega) (by omega) (by omega) _) (fun _ => Ea.pk [0, 1]) fun _ EE => ?_
   have EF : q - 1 < zb a := by rw [ha]; omega
   refine q_r 2 (s := Instr.loadAt 31 (.pointer (some ⟨Ec, q - 1, none⟩))) (v := zm (za a (q - 1) 0)) EE (fun w hS => Zf (by kernel_rfl) (hS.heap.cell (k := 0) rfl (zx EF))) (Ea.pk [0, 1]) fun _ EG => q_s [3] [] 3 EG (Ea.pk [0, 1]) fun _ EH => q_f 4 (s := Instr.indexAt 87 (pt Ed) (ni (q - 1))) (v := .pointer (some ⟨Ed, q - 1, none⟩)) EH (fun _ => Go.Dbr.run_indexarr (e := 31) (sz := 1) (m := 17) (j := q - 1) (o := q - 1) (by kernel_rfl) (by kernel_rfl) (by omega) (by omega) (by omega) _) (fun _ => Ea.pk [0, 1]) fun _ EI => ?_
   have EJ : q - 1 < zb b := by rw [hb]; omega
   refine q_r 5 (s := Instr.loadAt 31 (.pointer (some ⟨Ed, q - 1, none⟩))) (v := zm (za b (q - 1) 0)) EI (fun w hS => Zf (by kernel_rfl) (hS.heap.cell (k := 1) rfl (zx EJ))) (Ea.pk [0, 1]) fun _ EK => q_s [6] [] 0 EK (Ea.pk [0, 1]) fun _ EL => ?_
   exact h_e ⟨EL.sb, Ea.pk [0, 1]⟩
  rintro _ _ ⟨Eg, Eh⟩
  refine ze <| c_n ((zw (za a (q - 1) 0) : Nat) : Int) ((zw (za b (q - 1) 0) : Nat) : Int) Eg (fun EM => ?_) (fun EM => ?_)
  ·
   refine wp_seq <| r_c (fun ac wo => Env ac 24 [(2, pt Ec), (3, pt Ed), (4, .bool (decide (((zw (za a (q - 1) 0) : Nat) : Int) < ((zw (za b (q - 1) 0) : Nat) : Int)))), (5, ni (q - 1))] ∧ Ev w [] wo [.box Ec (zh a) 87, .box Ed (zh b) 87]) ?_ ?_
   ·
    refine h_s (fun wv => Ev w [] wv [.box Ec (zh a) 87, .box Ed (zh b) 87]) [] 8 ?_
    have Eb := Eh.trans (zO Eh.heap)
    refine q_s [0] [] 7 Eg (Eb.pk [0, 1]) fun _ Ei => q_f 1 (s := Instr.indexAt 87 (pt Ec) (ni (q - 1))) (v := .pointer (some ⟨Ec, q - 1, none⟩)) Ei (fun _ => Go.Dbr.run_indexarr (e := 31) (sz := 1) (m := 17) (j := q - 1) (o := q - 1) (by kernel_rfl) (by kernel_rfl) (by omega) (by omega) (by omega) _) (fun _ => Eb.pk [0, 1]) fun _ Ej => ?_
    have Ek : q - 1 < zb a := by rw [ha]; omega
    refine q_r 2 (s := Instr.loadAt 31 (.pointer (some ⟨Ec, q - 1, none⟩))) (v := zm (za a (q - 1) 0)) Ej (fun w hS => Zf (by kernel_rfl) (hS.heap.cell (k := 0) rfl (zx Ek))) (Eb.pk [0, 1]) fun _ El => q_s [3] [] 4 El (Eb.pk [0, 1]) fun _ Em => q_f 4 (s := Instr.indexAt 87 (pt Ed) (ni (q - 1))) (v := .pointer (some ⟨Ed, q - 1, none⟩)) Em (fun _ => Go.Dbr.run_indexarr (e := 31) (sz := 1) (m := 17) (j := q - 1) (o := q - 1) (by kernel_rfl) (by kernel_rfl) (by omega) (by omega) (by omega) _) (fun _ => Eb.pk [0, 1]) fun _ En => ?_
    have Eo : q - 1 < zb b := by rw [hb]; omega
    refine q_r 5 (s := Instr.loadAt 31 (.pointer (some ⟨Ed, q - 1, none⟩))) (v := zm (za b (q - 1) 0)) En (fun w hS => Zf (by kernel_rfl) (hS.heap.cell (k := 1) rfl (zx Eo))) (Eb.pk [0, 1]) fun _ Ep => q_s [6,7] [] 0 Ep (Eb.pk [0, 1]) fun _ Eq => ?_
    exact h_e ⟨Eq.sb, Eb.pk [0, 1]⟩
   rintro _ _ ⟨Er, Es⟩
   refine ze <| wp_ret <| block_ret <| ZE <| ZE <| block_ret <| ZE <| d_ret1 (t := 4) (v := .bool (decide (((zw (za a (q - 1) 0) : Nat) : Int) < ((zw (za b (q - 1) 0) : Nat) : Int)))) Er (by kernel_rfl) (by kernel_rfl) ?_
   have e : (decide (((zw (za a (q - 1) 0) : Nat) : Int) < ((zw (za b (q - 1) 0) : Nat) : Int))) = decide (dv 4294967296 a < dv 4294967296 b) := decide_eq_decide.2 (lower_at ha hb da db (by omega) (fun j h1 h2 => hs j (by omega) h2) (by assumption))
   exact ⟨by rw [e], Es.pk []⟩
  refine wp_skip <| zv <| ze <| d_r [2,3,5] [(1, g_n (w_r (e := ((q - 1 : Nat) : Int) - (1 : Int)) (x := ((q - 1 : Nat) : Int) - (1 : Int)) (by omega)))] Eg fun _ Et => ze <| ⟨_, ⟨q - 1, rfl, Et.sb, Eh.pk [0, 1], by omega, fun j h1 h2 => by by_cases e : j = q - 1 <;> first | (subst e; apply Qr.1; omega) | exact hs j (by omega) h2⟩, ?_⟩
  omega
 refine wp_exit <| zy <| zy <| zL <| ze <| wp_seq <| d_r [2,3,4,5] [] Ef fun _ Eu => ze <| wp_ret <| d_ret1 (t := 4) (v := .bool false) Eu (by kernel_rfl) (by kernel_rfl) ?_
 have hq0 : q = 0 := by omega
 have e : (false : Bool) = decide (dv 4294967296 a < dv 4294967296 b) := (decide_eq_false (lower_eq ha hb (fun j h1 h2 => hs j (by omega) h2))).symm
 exact ⟨by rw [e], Ee.pk []⟩
end Go.Proofs.YtlnogkmnklfjlaaGreatDoor

namespace Go.Proofs.YtlnogkmnklfjlaaGreatDoor
open Go.Dbr
set_option maxRecDepth 100000
set_option maxHeartbeats 2000000
set_option linter.unusedVariables false
set_option linter.unusedSimpArgs false
theorem dv_lt32' {l : List UInt64} (h : DG l) : dv 4294967296 l < 4294967296 ^ l.length := by
  have e := dk_split l l.length
  rw [List.drop_length, show dv 4294967296 [] = 0 from rfl, Z5, Zx] at e
  rw [e]
  exact dk_lt h _
theorem dv17 {X : Nat} (h : X < 4294967296 ^ 17) : dv 4294967296 (n32 17 X) = X := by rw [n32_val, zG h]
theorem lower_n (w : World) (X Y : Nat) (hX : X < 4294967296 ^ 17) (hY : Y < 4294967296 ^ 17) : Calls Tryz.prog 111 #[.agg (zg (zh (n32 17 X))), .agg (zg (zh (n32 17 Y)))] w fun e w' => e = .returned (.bool (decide (X < Y))) ∧ Ev w [] w' [] := by
  have h := lower_go w (n32 17 X) (n32 17 Y) (ZM _ _) (ZM _ _) (YG _ _) (YG _ _)
  rwa [dv17 hX, dv17 hY] at h
theorem shift_in {X : Nat} {s : List UInt64} {i t : Nat} (ht : 7 ≤ t) (hl : s.length = 17) (hq : i + t - 7 < 17) (hz : za s (i + t - 7) 0 = 0) (hv : dv 4294967296 s = dk (n32 17 X) i * 4294967296 ^ (t - 7)) :
    dv 4294967296 (zp s (i + t - 7) (za (n32 17 X) i 0)) = dk (n32 17 X) (i + 1) * 4294967296 ^ (t - 7) := by
  have e := dv_set 4294967296 (za (n32 17 X) i 0) s (i + t - 7) (by omega)
  rw [hz, show (0 : UInt64).toNat = 0 from rfl, Nat.zero_mul, Zx, hv] at e
  rw [e, dk, Zo, show i + t - 7 = i + (t - 7) by omega, Nat.pow_add, Ze]
theorem top_eq {t : Nat} (ht : 7 ≤ t) {s : List UInt64} (hl : s.length = 17) (hd : DG s) (hv : dv 4294967296 s = dk (n32 17 (mF 4)) 8 * 4294967296 ^ (t - 7)) : s = n32 17 (mF 4 * 2 ^ (32 * (t - 7))) := by
  refine n32_of hl hd ?_
  rw [hv, dk_n32 8 (by decide), show mF 4 % 4294967296 ^ 8 = mF 4 by decide, Qx]
theorem top_b {t : Nat} (ht : t ≤ 16) : mF 4 * 2 ^ (32 * (t - 7)) < 4294967296 ^ 17 := by
  rw [Qx]
  have h : 4294967296 ^ (t - 7) ≤ 4294967296 ^ 9 := Nat.pow_le_pow_right (by decide) (by omega)
  exact QK (Nat.mul_le_mul_left _ h) (by decide)
theorem dig16 {X : Nat} (h : X < 4294967296 ^ 17) (h0 : (((za (n32 17 X) 16 0).toNat : Nat) : Int) = (0 : Int)) : X < 4294967296 ^ 16 := by
  have e := Jz 17 X 16 (by decide)
  rw [zG (YW h)] at e
  exact (Nat.div_eq_zero_iff_lt (by decide)).1 (e.symm.trans (by omega))
theorem dig16' {X : Nat} (h : X < 4294967296 ^ 17) (h0 : ¬ (((za (n32 17 X) 16 0).toNat : Nat) : Int) = (0 : Int)) : 4294967296 ^ 16 ≤ X := by
  have e := Jz 17 X 16 (by decide)
  rw [zG (YW h)] at e
  rcases Qe X (4294967296 ^ 16) with g | g
  · rw [Yx g] at e; omega
  · exact g
theorem p17 : (4294967296 : Nat) ^ 17 = 4294967296 * 4294967296 ^ 16 := by decide
theorem dbl_b {X : Nat} (h : X < 4294967296 ^ 16) : 2 * X < 4294967296 ^ 17 := by
  rw [p17]
  generalize 4294967296 ^ 16 = q at *
  omega
theorem dbl_e {X n : Nat} (h : X = mF 4 * 2 ^ n) : 2 * X = mF 4 * 2 ^ (n + 1) := by
  rw [h, z8, Nat.mul_left_comm, zZ 2]
theorem out_1 {V X n : Nat} (hV : V < 4294967296 ^ 16) (hX : X = mF 4 * 2 ^ n) (hn : n = 512) : V < mF 4 * 2 ^ (n + 1) := by
  subst hn
  exact Zu hV (by decide +kernel)
theorem out_2 {V X n : Nat} (hV : V < 4294967296 ^ 16) (hX : X = mF 4 * 2 ^ n) (h : 4294967296 ^ 16 ≤ X) : V < mF 4 * 2 ^ (n + 1) := by
  rw [← dbl_e hX]
  generalize 4294967296 ^ 16 = q at *
  omega
theorem out_3 {V X n : Nat} (hX : X = mF 4 * 2 ^ n) (h : ¬ X < V) : V < mF 4 * 2 ^ (n + 1) := by
  rw [← dbl_e hX]
  have : 0 < X := by rw [hX]; exact JK (by decide) (XM (by decide))
  omega
theorem st_0 {X q : Nat} (h : X = mF 4 * 2 ^ q / 2) (hq : 1 ≤ q) : X = mF 4 * 2 ^ (q - 1) := by
  have e : 2 ^ q = 2 ^ (q - 1) * 2 := by rw [← z8]; congr 1; omega
  rw [h, e, ← Ze, Nat.mul_div_cancel _ (by decide)]
theorem st_y {X Y q : Nat} (h : X = mF 4 * 2 ^ q / 2) (hq : 1 ≤ q) (hY : Y < mF 4 * 2 ^ q) : Y - X < mF 4 * 2 ^ (q - 1) := by
  have e : 2 ^ q = 2 ^ (q - 1) * 2 := by rw [← z8]; congr 1; omega
  rw [e, ← Ze] at hY
  rw [st_0 h hq]
  have : 0 < mF 4 * 2 ^ (q - 1) := JK (by decide) (XM (by decide))
  omega
theorem st_m {X Y q V : Nat} (h : X = mF 4 * 2 ^ q / 2) (hq : 1 ≤ q) (hXY : ¬ Y < X) (hm : Y % mF 4 = V % mF 4) : (Y - X) % mF 4 = V % mF 4 := by
  have e := st_0 h hq
  rw [← hm]
  have e2 : Y = (Y - X) + mF 4 * 2 ^ (q - 1) := by rw [← e]; omega
  conv => rhs; rw [e2, Nat.add_mul_mod_self_left]
theorem sub_dig {u s b : UInt64} (hu : u.toNat < 4294967296) (hs : s.toNat < 4294967296) (hb : b.toNat ≤ 1) : ((u - s - b) &&& 4294967295).toNat + s.toNat + b.toNat = u.toNat + 4294967296 * ((u - s - b) >>> zc 63).toNat ∧ ((u - s - b) >>> zc 63).toNat ≤ 1 := by
  rw [and_low, shr_n _ (by decide), YZ, YZ]
  omega
theorem sub_in {X Y i : Nat} {u : List UInt64} {b : UInt64} (hl : u.length = 17) (hi : i < 17) (hd : DG u) (hb : b.toNat ≤ 1) (hv : dv 4294967296 u + dk (n32 17 X) i = Y + b.toNat * 4294967296 ^ i) :
    dv 4294967296 (zp u i ((za u i 0 - za (n32 17 X) i 0 - b) &&& 4294967295)) + dk (n32 17 X) (i + 1) = Y + ((za u i 0 - za (n32 17 X) i 0 - b) >>> zc 63).toNat * 4294967296 ^ (i + 1) := by
  obtain ⟨h, _⟩ := sub_dig (hd i) (YG 17 X i) hb
  have e := dv_set 4294967296 ((za u i 0 - za (n32 17 X) i 0 - b) &&& 4294967295) u i (by omega)
  have m := congrArg (· * 4294967296 ^ i) h
  simp only [Zo] at m
  rw [dk, z8, zZ (4294967296 ^ i), ← Ze, zZ _ 4294967296]
  generalize 4294967296 ^ i = q at *
  omega
theorem sub_all {X Y i : Nat} {u : List UInt64} {b : UInt64} (hl : u.length = 17) (hi : i = 17) (hd : DG u) (hX : X < 4294967296 ^ 17) (hXY : ¬ Y < X) (hY : Y < 4294967296 ^ 17) (hv : dv 4294967296 u + dk (n32 17 X) i = Y + b.toNat * 4294967296 ^ i) : u = n32 17 (Y - X) := by
  refine n32_of hl hd ?_
  subst hi
  have h := dv_lt32' hd
  rw [hl] at h
  rw [dk_n32 17 (Nat.le_refl _), zG hX] at hv
  rcases Nat.eq_zero_or_pos b.toNat with z | z
  · rw [z] at hv; omega
  · have := Nat.le_mul_of_pos_left (4294967296 ^ 17) z
    omega
theorem slowly_go (w : World) (V : Nat) (hV : V < 4294967296 ^ 16) : Calls Tryz.prog 91 #[.agg (zg (zh (nd (mF 4)))), .agg (zg (zh (n32 17 V)))] w fun e w' => e = .returned (.agg (zg (zh (nd (V % mF 4))))) ∧ Ev w [] w' [] := by
 have hVb : V < 4294967296 ^ 17 := Zu hV (by decide)
 refine d_0 [(0, .agg (zg (zh (nd (mF 4))))), (1, .agg (zg (zh (n32 17 V))))] 112 Go.Proofs.Tryz.func91 Go.Proofs.Tryz.ntmps91 (Heap.nil _) fun a5 a6 a7 => wp_seq <| zk <| f_o <| m_m 33 (zh (nd (mF 4))) a6 a7 fun _ _ bd a8 a9 => f_o <| m_m 87 (zh (n32 17 V)) a8 a9 fun _ _ Ee ba aq => f_o <| m_z 33 (zh (zd 4 0)) ba aq fun _ _ Eb ar EI => ?_
 refine f_e <| ze <| wp_seq <| zk <| f_o <| Zp 0 4 (zh (nd (mF 4))) ar EI rfl (zf (zl _ _)) fun _ au => f_o <| c_p au EI (digits_go _ (nd (mF 4)) (zl _ _)) fun _ _ av aw => f_o <| m_z 87 (zh (zd 17 0)) av aw fun _ _ Ec ax ay => f_o <| zQ 3 17 (zh (n32 17 (nv (nd (mF 4))))) _ ax ay rfl (zf (ZM _ _)) (zf (zi)) (zt _) rfl fun _ _ az EJ => ?_
 refine f_e <| ze <| wp_seq ?_
 rw [nv_mF] at EJ
 refine d_r [3,4,5,6] [] az fun _ aA => ?_
 refine ze <| wp_seq <| QH (F := fun ac wo => ∃ (t : Nat), Env ac 112 [(3, pt Ee), (4, pt Eb), (5, pt Ec), (6, ni t)] ∧ Ev w [] wo [.box Ee (zh (n32 17 V)) 87, .box Eb (zh (zd 4 0)) 33, .box Ec (zh (n32 17 (mF 4))) 87] ∧ (7 ≤ t) ∧ (t ≤ 16)) ?_ ?_
 ·
  refine wp_block <| ZR (fun aB ac wo => ∃ (t : Nat), aB = (t + 1 : Nat) ∧ Env ac 112 [(3, pt Ee), (4, pt Eb), (5, pt Ec), (6, ni t)] ∧ Ev w [] wo [.box Ee (zh (n32 17 V)) 87, .box Eb (zh (zd 4 0)) 33, .box Ec (zh (n32 17 (mF 4))) 87] ∧ (7 ≤ t) ∧ (t ≤ 16) ∧ (∀ j, t < j → za (n32 17 V) j 0 = 0)) ⟨_, 16, rfl, aA.sb, EJ.pk [1, 2, 3], by omega, by omega, fun j hj => by rw [zI, List.getElem?_eq_none (by rw [ZM]; omega)]; rfl⟩ ?_
  rintro bb _ _ ⟨t, rfl, aC, Ey, ht7, ht16, hz⟩
  refine wp_seq <| wp_seq <| zk <| d_k [3,4,5,6,19] [] 3 aC fun _ EK => ?_
  rcases ZB (decide (((t : Nat) : Int) > (7 : Int))) with Eo | Eo
  ·
   have aD := EK.fx (t := 19) (congrArg Value.bool Eo)
   have hp47 : ((t : Nat) : Int) > (7 : Int) := of_decide_eq_true Eo
   refine d_k [3,4,5,6,19,20] [] 4 aD fun _ aE => f_o <| q_v (x := Instr.indexAt 87 (pt Ee) (ni t)) (v := .pointer (some ⟨Ee, t, none⟩)) aE (Go.Dbr.run_indexarr (e := 31) (sz := 1) (m := 17) (j := t) (o := t) (by kernel_rfl) (by kernel_rfl) (by omega) (by omega) (by omega) _) fun _ aF => f_o ?_
   have aG : t < zb (n32 17 V) := by rw [(ZM _ _)]; omega
   refine m_v 0 t (zm (za (n32 17 V) t 0)) aF Ey rfl (zx aG) fun _ aH => d_e [3,4,5,6,24] [] aH fun _ EG => ?_
   refine ze <| c_e ((zw (za (n32 17 V) t 0) : Nat) : Int) (0 : Int) EG (fun aI => ?_) (fun aI => ?_)
   ·
    refine wp_skip <| ze <| wp_block <| d_r [3,4,5,6] [(1, g_n (w_r (e := ((t : Nat) : Int) - (1 : Int)) (x := ((t - 1 : Nat) : Int)) (by omega)))] EG fun _ aJ => zv <| ze <| ⟨_, ⟨t - 1, rfl, aJ.sb, Ey.pk [0, 1, 2], by omega, by omega, fun j hj => by by_cases e : j = t <;> first | (subst e; apply Qr.1; rw [show (0 : UInt64).toNat = 0 from rfl]; omega) | exact hz j (by omega)⟩, ?_⟩
    omega
   refine wp_exit <| zy <| zy <| zL ?_
   exact ⟨rfl, ⟨t, EG.sb, Ey.pk [0, 1, 2], by omega, by omega⟩⟩
  have aK := EK.fx (t := 19) (congrArg Value.bool Eo)
  have hp61 : ¬ (((t : Nat) : Int) > (7 : Int)) := of_decide_eq_false Eo
  refine d_e [3,4,5,6,24] [] aK fun _ EL => ze <| c_f EL ?_
  refine wp_exit <| zy <| zy <| zL ?_
  exact ⟨rfl, ⟨t, EL.sb, Ey.pk [0, 1, 2], by omega, by omega⟩⟩
 rintro _ _ ⟨t, aL, aM, ht7, ht16⟩
 refine ze <| wp_seq <| zk <| f_o <| m_z 87 (zh (zd 17 0)) aL aM fun _ _ Ea aN aO => f_e <| ze <| wp_seq <| wp_seq <| d_r [3,4,5,6,7,8] [] aN fun _ aP => ze <| wp_block <| ZR (fun aQ ac wo => ∃ (i1 : Nat) (s : List UInt64), aQ = (9 - i1 : Nat) ∧ Env ac 112 [(3, pt Ee), (4, pt Eb), (5, pt Ec), (6, ni t), (7, pt Ea), (8, ni i1)] ∧ Ev w [] wo [.box Ea (zh s) 87, .box Ee (zh (n32 17 V)) 87, .box Eb (zh (zd 4 0)) 33, .box Ec (zh (n32 17 (mF 4))) 87] ∧ (i1 ≤ 8) ∧ (zb s = 17) ∧ (DG s) ∧ (dv 4294967296 s = dk (n32 17 (mF 4)) i1 * 4294967296 ^ (t - 7)) ∧ (∀ j, i1 + t - 7 ≤ j → za s j 0 = 0)) ⟨_, 0, zd 17 0, rfl, aP.sb, aO.pk [3, 0, 1, 2], by omega, zi, DG.rep, by rw [dv_replicate]; simp [dk], fun j _ => zeros17 j⟩ ?_
 rintro bc _ _ ⟨i1, s, rfl, aR, Ez, hi, hs, hds, hv, hzs⟩
 refine wp_seq <| wp_seq <| d_r [3,4,5,6,7,8,28] [] aR fun _ EH => ?_
 refine ze <| c_d (((i1 : Nat) : Int) < (8 : Int)) EH (fun aS => ?_) (fun aS => ?_)
 ·
  refine wp_skip <| ze <| wp_seq <| wp_block <| zk <| d_k [3,4,5,6,7,8,34,35] [(2, g_n (w_a i1 t)), (3, g_n (w_r (e := ((i1 + t : Nat) : Int) - (7 : Int)) (x := (((i1 + t) - 7 : Nat) : Int)) (by omega)))] 5 EH fun _ aT => f_o <| q_v (x := Instr.indexAt 87 (pt Ec) (ni i1)) (v := .pointer (some ⟨Ec, i1, none⟩)) aT (Go.Dbr.run_indexarr (e := 31) (sz := 1) (m := 17) (j := i1) (o := i1) (by kernel_rfl) (by kernel_rfl) (by omega) (by omega) (by omega) _) fun _ aU => f_o ?_
  have aV : i1 < zb (n32 17 (mF 4)) := by rw [(ZM _ _)]; omega
  refine m_v 3 i1 (zm (za (n32 17 (mF 4)) i1 0)) aU Ez rfl (zx aV) fun _ aW => f_o <| q_v (x := Instr.indexAt 87 (pt Ea) (ni ((i1 + t) - 7))) (v := .pointer (some ⟨Ea, (i1 + t) - 7, none⟩)) aW (Go.Dbr.run_indexarr (e := 31) (sz := 1) (m := 17) (j := (i1 + t) - 7) (o := (i1 + t) - 7) (by kernel_rfl) (by kernel_rfl) (by omega) (by omega) (by omega) _) fun _ aX => f_o ?_
  have aY : (i1 + t) - 7 < zb s := by rw [hs]; omega
  refine m_t 0 ((i1 + t) - 7) (zm (za (n32 17 (mF 4)) i1 0)) [.box Ea (zh (zp s ((i1 + t) - 7) (za (n32 17 (mF 4)) i1 0))) 87, .box Ee (zh (n32 17 V)) 87, .box Eb (zh (zd 4 0)) 33, .box Ec (zh (n32 17 (mF 4))) 87] aX Ez rfl (zx aY) (ZU _ _ _) rfl fun _ _ aZ a0 => f_e <| zv <| ze <| d_r [3,4,5,6,7,8] [(1, g_n (w_a i1 1))] aZ fun _ EM => ze <| ⟨_, ⟨i1 + 1, (zp s ((i1 + t) - 7) (za (n32 17 (mF 4)) i1 0)), rfl, EM.sb, a0.pk [0, 1, 2, 3], by omega, (by simp [hs]), hds.set (YG _ _ _), shift_in ht7 hs (by omega) (hzs _ (by omega)) hv, fun j hj => by rw [Qt _ (by omega)]; exact hzs j (by omega)⟩, ?_⟩
  omega
 refine wp_exit <| zy <| zy <| zL <| ze <| wp_seq ?_
 have hi8 : i1 = 8 := by omega
 rw [hi8] at hv
 have hse := top_eq ht7 hs hds hv
 rw [hse] at Ez
 refine d_r [3,4,5,6,7,8,9] [(1, g_n (w_r (e := ((t : Nat) : Int) - (7 : Int)) (x := ((t - 7 : Nat) : Int)) (by omega))), (2, g_n (w_m 32 (t - 7)))] EH fun _ EN => ?_
 refine ze <| wp_seq <| QH (F := fun ac wo => ∃ (n : Nat) (X : Nat), Env ac 112 [(3, pt Ee), (4, pt Eb), (5, pt Ec), (6, ni t), (7, pt Ea), (8, ni i1), (9, ni n)] ∧ Ev w [] wo [.box Ee (zh (n32 17 V)) 87, .box Eb (zh (zd 4 0)) 33, .box Ea (zh (n32 17 X)) 87] ∧ (X < 4294967296 ^ 17) ∧ (X = mF 4 * 2 ^ n) ∧ (n ≤ 512) ∧ (V < mF 4 * 2 ^ (n + 1))) ?_ ?_
 ·
  refine wp_block <| ZR (fun EO ac wo => ∃ (n : Nat) (X : Nat), EO = (513 - n : Nat) ∧ Env ac 112 [(3, pt Ee), (4, pt Eb), (5, pt Ec), (6, ni t), (7, pt Ea), (8, ni i1), (9, ni n)] ∧ Ev w [] wo [.box Ea (zh (n32 17 X)) 87, .box Ee (zh (n32 17 V)) 87, .box Eb (zh (zd 4 0)) 33, .box Ec (zh (n32 17 (mF 4))) 87] ∧ (n ≤ 512) ∧ (X < 4294967296 ^ 17) ∧ (X = mF 4 * 2 ^ n)) ⟨_, 32 * (t - 7), mF 4 * 2 ^ (32 * (t - 7)), rfl, EN.sb, Ez.pk [0, 1, 2, 3], by omega, top_b ht16, rfl⟩ ?_
  rintro a1 _ _ ⟨n, X, rfl, EP, Eh, hn, hXb, hX⟩
  refine wp_seq <| wp_seq <| zk <| d_k [3,4,5,6,7,8,9,44] [] 3 EP fun _ EA => ?_
  rcases ZB (decide (((n : Nat) : Int) < (512 : Int))) with Ei | Ei
  ·
   have EQ := EA.fx (t := 44) (congrArg Value.bool Ei)
   have hp114 : ((n : Nat) : Int) < (512 : Int) := of_decide_eq_true Ei
   refine d_k [3,4,5,6,7,8,9,44,45] [] 4 EQ fun _ ER => f_o ?_
   have ES : 16 < zb (n32 17 X) := by rw [(ZM _ _)]; omega
   refine m_v 0 16 (zm (za (n32 17 X) 16 0)) ER Eh rfl (zx ES) fun _ ET => d_k [3,4,5,6,7,8,9,49] [] 8 ET fun _ EB => ?_
   rcases ZB (((zw (za (n32 17 X) 16 0) : Nat) : Int) == (0 : Int)) with Ej | Ej
   ·
    have EU := EB.fx (t := 49) (congrArg Value.bool Ej)
    have hp124 : ((zw (za (n32 17 X) 16 0) : Nat) : Int) = (0 : Int) := eq_of_beq Ej
    refine f_o <| Zp 0 17 (zh (n32 17 X)) EU Eh rfl (zf (ZM _ _)) fun _ EV => f_o <| Zp 1 17 (zh (n32 17 V)) EV Eh rfl (zf (ZM _ _)) fun _ EW => f_o <| c_p EW Eh (lower_n _ X V (by assumption) (by assumption)) fun _ _ EX EC => d_e [3,4,5,6,7,8,9,53] [] EX fun _ Ep => ?_
    refine ze <| c_d (X < V) Ep (fun EY => ?_) (fun EY => ?_)
    ·
     refine wp_skip <| ze <| wp_block <| wp_seq <| zk <| f_o <| m_z 87 (zh (zd 17 0)) Ep EC fun _ _ Ed EZ E0 => f_e <| ze <| wp_seq <| wp_seq <| d_r [3,4,5,6,7,8,9,10,11] [] EZ fun _ E1 => ze <| wp_block <| ZR (fun E2 ac wo => ∃ (i3 : Nat) (u : List UInt64), E2 = (18 - i3 : Nat) ∧ Env ac 112 [(3, pt Ee), (4, pt Eb), (5, pt Ec), (6, ni t), (7, pt Ea), (8, ni i1), (9, ni n), (10, pt Ed), (11, ni i3)] ∧ Ev w [] wo [.box Ed (zh u) 87, .box Ea (zh (n32 17 X)) 87, .box Ee (zh (n32 17 V)) 87, .box Eb (zh (zd 4 0)) 33, .box Ec (zh (n32 17 (mF 4))) 87] ∧ (i3 ≤ 17) ∧ (zb u = 17) ∧ (Two (2 * X) 0 i3 u)) ⟨_, 0, zd 17 0, rfl, E1.sb, E0.pk [4, 0, 1, 2, 3], by omega, zi, Two.zeros⟩ ?_
     rintro a2 _ _ ⟨i3, u, rfl, E3, Ek, hi, hu, h2⟩
     refine wp_seq <| wp_seq <| d_r [3,4,5,6,7,8,9,10,11,55] [] E3 fun _ Eq => ?_
     refine ze <| c_d (((i3 : Nat) : Int) < (17 : Int)) Eq (fun E4 => ?_) (fun E4 => ?_)
     ·
      refine wp_skip <| ze <| wp_seq <| wp_block <| wp_seq <| zk <| d_k [3,4,5,6,7,8,9,10,11,58,59] [] 2 Eq fun _ E5 => f_o <| q_v (x := Instr.indexAt 87 (pt Ea) (ni i3)) (v := .pointer (some ⟨Ea, i3, none⟩)) E5 (Go.Dbr.run_indexarr (e := 31) (sz := 1) (m := 17) (j := i3) (o := i3) (by kernel_rfl) (by kernel_rfl) (by omega) (by omega) (by omega) _) fun _ E6 => f_o ?_
      have E7 : i3 < zb (n32 17 X) := by rw [(ZM _ _)]; omega
      refine m_v 1 i3 (zm (za (n32 17 X) i3 0)) E6 Ek rfl (zx E7) fun _ E8 => d_k [3,4,5,6,7,8,9,10,11,58,63] [(4, g_i .u64 (Go.Dbr.u64_shl (x := za (n32 17 X) i3 0) (n := 1) rfl (by decide))), (5, g_i .u64 (Go.Dbr.u64_and (x := (za (n32 17 X) i3 0) <<< zc 1) (y := (4294967295 : UInt64)) rfl rfl))] 6 E8 fun _ E9 => f_o <| q_v (x := Instr.indexAt 87 (pt Ed) (ni i3)) (v := .pointer (some ⟨Ed, i3, none⟩)) E9 (Go.Dbr.run_indexarr (e := 31) (sz := 1) (m := 17) (j := i3) (o := i3) (by kernel_rfl) (by kernel_rfl) (by omega) (by omega) (by omega) _) fun _ Ha => f_o ?_
      have Hb : i3 < zb u := by rw [hu]; omega
      refine m_t 0 i3 (zm (((za (n32 17 X) i3 0) <<< zc 1) &&& (4294967295 : UInt64))) _ Ha Ek rfl (zx Hb) (ZU _ _ _) rfl fun _ _ Hc Er => f_e <| ze <| wp_seq <| d_r [3,4,5,6,7,8,9,10,11,66] [] Hc fun _ Es => ?_
      refine ze <| c_d (((i3 : Nat) : Int) > (0 : Int)) Es (fun Hd => ?_) (fun Hd => ?_)
      ·
       refine r_c (fun ac wo => Env ac 112 [(3, pt Ee), (4, pt Eb), (5, pt Ec), (6, ni t), (7, pt Ea), (8, ni i1), (9, ni n), (10, pt Ed), (11, ni i3)] ∧ Ev w [] wo [.box Ed (zh (zp (zp u i3 (((za (n32 17 X) i3 0) <<< zc 1) &&& (4294967295 : UInt64))) i3 ((za (zp u i3 (((za (n32 17 X) i3 0) <<< zc 1) &&& (4294967295 : UInt64))) i3 0) ||| ((za (n32 17 X) (i3 - 1) 0) >>> zc 31)))) 87, .box Ea (zh (n32 17 X)) 87, .box Ee (zh (n32 17 V)) 87, .box Eb (zh (zd 4 0)) 33, .box Ec (zh (n32 17 (mF 4))) 87]) ?_ ?_
       ·
        refine h_s (fun wv => Ev w [] wv [.box Ed (zh (zp u i3 (((za (n32 17 X) i3 0) <<< zc 1) &&& (4294967295 : UInt64)))) 87, .box Ea (zh (n32 17 X)) 87]) [11] 12 ?_
        have Ef := Er.trans (zO Er.heap)
        refine q_s [0,1] [] 10 Es (Ef.pk [0, 1]) fun _ He => q_f 2 (s := Instr.indexAt 87 (pt Ed) (ni i3)) (v := .pointer (some ⟨Ed, i3, none⟩)) He (fun _ => Go.Dbr.run_indexarr (e := 31) (sz := 1) (m := 17) (j := i3) (o := i3) (by kernel_rfl) (by kernel_rfl) (by omega) (by omega) (by omega) _) (fun _ => Ef.pk [0, 1]) fun _ Hf => ?_
        have Hg : i3 < zb (zp u i3 (((za (n32 17 X) i3 0) <<< zc 1) &&& (4294967295 : UInt64))) := by rw [(List.length_set.trans hu)]; omega
        refine q_r 3 (s := Instr.loadAt 31 (.pointer (some ⟨Ed, i3, none⟩))) (v := zm (za (zp u i3 (((za (n32 17 X) i3 0) <<< zc 1) &&& (4294967295 : UInt64))) i3 0)) Hf (fun w hS => Zf (by kernel_rfl) (hS.heap.cell (k := 0) rfl (zx Hg))) (Ef.pk [0, 1]) fun _ Hh => q_s [4,5] [(5, g_n (w_r (e := ((i3 : Nat) : Int) - (1 : Int)) (x := ((i3 - 1 : Nat) : Int)) (by omega)))] 6 Hh (Ef.pk [0, 1]) fun _ Hi => q_f 6 (s := Instr.indexAt 87 (pt Ea) (ni (i3 - 1))) (v := .pointer (some ⟨Ea, i3 - 1, none⟩)) Hi (fun _ => Go.Dbr.run_indexarr (e := 31) (sz := 1) (m := 17) (j := i3 - 1) (o := i3 - 1) (by kernel_rfl) (by kernel_rfl) (by omega) (by omega) (by omega) _) (fun _ => Ef.pk [0, 1]) fun _ Hj => ?_
        have Hk : i3 - 1 < zb (n32 17 X) := by rw [(ZM _ _)]; omega
        refine q_r 7 (s := Instr.loadAt 31 (.pointer (some ⟨Ea, i3 - 1, none⟩))) (v := zm (za (n32 17 X) (i3 - 1) 0)) Hj (fun w hS => Zf (by kernel_rfl) (hS.heap.cell (k := 1) rfl (zx Hk))) (Ef.pk [0, 1]) fun _ Hl => q_s [8,9] [(8, g_i .u64 (Go.Dbr.u64_shr (x := za (n32 17 X) (i3 - 1) 0) (n := 31) rfl (by decide))), (9, g_i .u64 (Go.Dbr.u64_or (x := za (zp u i3 (((za (n32 17 X) i3 0) <<< zc 1) &&& (4294967295 : UInt64))) i3 0) (y := (za (n32 17 X) (i3 - 1) 0) >>> zc 31) rfl rfl))] 2 Hl (Ef.pk [0, 1]) fun _ Hm => q_f 10 (s := Instr.indexAt 87 (pt Ed) (ni i3)) (v := .pointer (some ⟨Ed, i3, none⟩)) Hm (fun _ => Go.Dbr.run_indexarr (e := 31) (sz := 1) (m := 17) (j := i3) (o := i3) (by kernel_rfl) (by kernel_rfl) (by omega) (by omega) (by omega) _) (fun _ => Ef.pk [0, 1]) fun _ Hn => q_t 11 ?_
        have Ho : i3 < zb (zp u i3 (((za (n32 17 X) i3 0) <<< zc 1) &&& (4294967295 : UInt64))) := by rw [(List.length_set.trans hu)]; omega
        refine m_t 0 i3 (zm ((za (zp u i3 (((za (n32 17 X) i3 0) <<< zc 1) &&& (4294967295 : UInt64))) i3 0) ||| ((za (n32 17 X) (i3 - 1) 0) >>> zc 31))) [.box Ed (zh (zp (zp u i3 (((za (n32 17 X) i3 0) <<< zc 1) &&& (4294967295 : UInt64))) i3 ((za (zp u i3 (((za (n32 17 X) i3 0) <<< zc 1) &&& (4294967295 : UInt64))) i3 0) ||| ((za (n32 17 X) (i3 - 1) 0) >>> zc 31)))) 87, .box Ea (zh (n32 17 X)) 87, .box Ee (zh (n32 17 V)) 87, .box Eb (zh (zd 4 0)) 33, .box Ec (zh (n32 17 (mF 4))) 87] Hn Ef rfl (zx Ho) (ZU _ _ _) rfl fun _ _ Hp Hq => ⟨q_y, ?_⟩
        exact h_e ⟨Hp.sb, Hq.pk [0, 1, 2, 3, 4]⟩
       rintro _ _ ⟨Hr, Hs⟩
       refine zv <| ze <| d_r [3,4,5,6,7,8,9,10,11] [(1, g_n (w_a i3 1))] Hr fun _ Ht => ze <| ⟨_, ⟨i3 + 1, (zp (zp u i3 (((za (n32 17 X) i3 0) <<< zc 1) &&& (4294967295 : UInt64))) i3 ((za (zp u i3 (((za (n32 17 X) i3 0) <<< zc 1) &&& (4294967295 : UInt64))) i3 0) ||| ((za (n32 17 X) (i3 - 1) 0) >>> zc 31))), rfl, Ht.sb, Hs.pk [0, 1, 2, 3, 4], by omega, (by simp [hu]), (by first | exact dbl_in hu (by omega) (by omega) h2 | exact dbl_0 hu (by omega) h2)⟩, ?_⟩
       omega
      refine wp_skip <| zv <| ze <| d_r [3,4,5,6,7,8,9,10,11] [(1, g_n (w_a i3 1))] Es fun _ Hu => ze <| ⟨_, ⟨i3 + 1, (zp u i3 (((za (n32 17 X) i3 0) <<< zc 1) &&& (4294967295 : UInt64))), rfl, Hu.sb, Er.pk [0, 1, 2, 3, 4], by omega, (by simp [hu]), (by first | exact dbl_in hu (by omega) (by omega) h2 | exact dbl_0 hu (by omega) h2)⟩, ?_⟩
      omega
     refine wp_exit <| zy <| zy <| zL <| ze <| wp_seq ?_
     have hue := Two.all hu (by omega) h2
     rw [hue] at Ek
     refine zk <| f_o <| Zp 0 17 (zh (n32 17 (2 * X))) Eq Ek rfl (zf (ZM _ _)) fun _ Hv => f_o <| zQ 1 17 (zh (n32 17 (2 * X))) _ Hv Ek rfl (zf (ZM _ _)) (zf (ZM _ _)) (zt _) rfl fun _ _ Hw Hx => f_e <| ze <| d_r [3,4,5,6,7,8,9,10,11] [(1, g_n (w_a n 1))] Hw fun _ Hy => zv <| ze <| ⟨_, ⟨n + 1, (2 * X), rfl, Hy.sb, Hx.pk [1, 2, 3, 4], by omega, dbl_b (dig16 hXb (by assumption)), dbl_e hX⟩, ?_⟩
     omega
    refine wp_exit <| zy <| zy <| zL ?_
    exact ⟨rfl, ⟨n, X, Ep.sb, EC.pk [1, 2, 0], hXb, hX, hn, by first | exact out_3 hX (by assumption) | exact out_2 hV hX (dig16' hXb (by assumption)) | exact out_1 hV hX (by omega)⟩⟩
   have Hz := EB.fx (t := 49) (congrArg Value.bool Ej)
   have hp279 : ¬ (((zw (za (n32 17 X) 16 0) : Nat) : Int) = (0 : Int)) := ne_of_beq_false Ej
   refine d_e [3,4,5,6,7,8,9,53] [] Hz fun _ ED => ze <| c_f ED ?_
   refine wp_exit <| zy <| zy <| zL ?_
   exact ⟨rfl, ⟨n, X, ED.sb, Eh.pk [1, 2, 0], hXb, hX, hn, by first | exact out_3 hX (by assumption) | exact out_2 hV hX (dig16' hXb (by assumption)) | exact out_1 hV hX (by omega)⟩⟩
  have HA := EA.fx (t := 44) (congrArg Value.bool Ei)
  have hp283 : ¬ (((n : Nat) : Int) < (512 : Int)) := of_decide_eq_false Ei
  refine d_e [3,4,5,6,7,8,9,53] [] HA fun _ EE => ze <| c_f EE ?_
  refine wp_exit <| zy <| zy <| zL ?_
  exact ⟨rfl, ⟨n, X, EE.sb, Eh.pk [1, 2, 0], hXb, hX, hn, by first | exact out_3 hX (by assumption) | exact out_2 hV hX (dig16' hXb (by assumption)) | exact out_1 hV hX (by omega)⟩⟩
 rintro _ _ ⟨n, X, HB, HC, hXb, hX, hn, hlt⟩
 refine ze <| wp_seq <| wp_block ?_
 have HD := X4 (t := 9) (v := ni n) (u := .int .i64 (((n + 1 : Nat) : Int) - (1 : Int))) HB (congrArg (Value.int .i64) (show ((n : Nat) : Int) = ((n + 1 : Nat) : Int) - (1 : Int) by omega))
 refine ZR (fun HE ac wo => ∃ (q : Nat) (Y : Nat) (X : Nat), HE = (q + 1 : Nat) ∧ Env ac 112 [(3, pt Ee), (4, pt Eb), (5, pt Ec), (6, ni t), (7, pt Ea), (8, ni i1), (9, .int .i64 (((q : Nat) : Int) - (1 : Int)))] ∧ Ev w [] wo [.box Ea (zh (n32 17 X)) 87, .box Ee (zh (n32 17 Y)) 87, .box Eb (zh (zd 4 0)) 33] ∧ (X = mF 4 * 2 ^ q / 2) ∧ (Y < mF 4 * 2 ^ q) ∧ (Y % mF 4 = V % mF 4) ∧ (X < 4294967296 ^ 17) ∧ (Y < 4294967296 ^ 17) ∧ (q ≤ 600)) ⟨_, n + 1, V, X, rfl, HD.sb, HC.pk [2, 0, 1], by rw [← dbl_e hX, Nat.mul_div_cancel_left _ (by decide)], hlt, rfl, hXb, hVb, by omega⟩ ?_
 rintro a3 _ _ ⟨q, Y, X, rfl, HF, El, hX2, hY, hm, hXb, hYb, hq⟩
 refine wp_seq <| wp_seq <| d_r [3,4,5,6,7,8,9,82] [] HF fun _ Et => ?_
 refine ze <| c_d (((q : Nat) : Int) - (1 : Int) ≥ (0 : Int)) Et (fun HG => ?_) (fun HG => ?_)
 ·
  refine wp_skip <| ze <| wp_seq <| wp_block <| wp_seq <| wp_seq ?_
  have HH := X4 (t := 9) (v := .int .i64 (((q : Nat) : Int) - (1 : Int))) (u := ni (q - 1)) Et (congrArg (Value.int .i64) (show ((q : Nat) : Int) - (1 : Int) = ((q - 1 : Nat) : Int) by omega))
  refine zk <| f_o <| Zp 1 17 (zh (n32 17 Y)) HH El rfl (zf (ZM _ _)) fun _ HI => f_o <| Zp 0 17 (zh (n32 17 X)) HI El rfl (zf (ZM _ _)) fun _ HJ => f_o <| c_p HJ El (lower_n _ Y X (by assumption) (by assumption)) fun _ _ HK Eu => d_e [3,4,5,6,7,8,9,88] [] HK fun _ Ew => ?_
  refine ze <| cond_at Ew (t := !(decide (Y < X))) (by kernel_rfl) (fun Em => ?_) (fun Em => ?_)
  ·
   replace Em : ¬ (Y < X) := by simpa using Em
   refine wp_seq <| d_r [3,4,5,6,7,8,9,12] [] Ew fun _ HL => ze <| wp_seq <| d_r [3,4,5,6,7,8,9,12,13] [] HL fun _ HM => ze <| wp_block <| ZR (fun HN ac wo => ∃ (i5 : Nat) (u : List UInt64) (b : UInt64), HN = (18 - i5 : Nat) ∧ Env ac 112 [(3, pt Ee), (4, pt Eb), (5, pt Ec), (6, ni t), (7, pt Ea), (8, ni i1), (9, ni (q - 1)), (12, zm b), (13, ni i5)] ∧ Ev w [] wo [.box Ee (zh u) 87, .box Ea (zh (n32 17 X)) 87, .box Eb (zh (zd 4 0)) 33] ∧ (i5 ≤ 17) ∧ (zb u = 17) ∧ (DG u) ∧ (b.toNat ≤ 1) ∧ (dv 4294967296 u + dk (n32 17 X) i5 = Y + b.toNat * 4294967296 ^ i5)) ⟨_, 0, n32 17 Y, 0, rfl, HM.sb, Eu.pk [1, 0, 2], by omega, ZM _ _, YG _ _, by decide, by rw [dv17 hYb]; simp [dk]⟩ ?_
   rintro a4 _ _ ⟨i5, u, b, rfl, HO, En, hi, hu, hdu, hb, hvu⟩
   refine wp_seq <| wp_seq <| d_r [3,4,5,6,7,8,9,12,13,90] [] HO fun _ Ex => ?_
   refine ze <| c_d (((i5 : Nat) : Int) < (17 : Int)) Ex (fun HP => ?_) (fun HP => ?_)
   ·
    refine wp_skip <| ze <| wp_seq <| wp_block <| wp_seq <| r_c (fun ac wo => Env ac 112 [(3, pt Ee), (4, pt Eb), (5, pt Ec), (6, ni t), (7, pt Ea), (8, ni i1), (9, ni (q - 1)), (12, zm b), (13, ni i5), (14, zm (((za u i5 0) - (za (n32 17 X) i5 0)) - b))] ∧ Ev w [] wo [.box Ee (zh u) 87, .box Ea (zh (n32 17 X)) 87, .box Eb (zh (zd 4 0)) 33]) ?_ ?_
    ·
     refine h_s (fun wv => Ev w [] wv [.box Ee (zh u) 87, .box Ea (zh (n32 17 X)) 87]) [] 10 ?_
     have Eg := En.trans (zO En.heap)
     refine q_s [0] [] 9 Ex (Eg.pk [0, 1]) fun _ HQ => q_f 1 (s := Instr.indexAt 87 (pt Ee) (ni i5)) (v := .pointer (some ⟨Ee, i5, none⟩)) HQ (fun _ => Go.Dbr.run_indexarr (e := 31) (sz := 1) (m := 17) (j := i5) (o := i5) (by kernel_rfl) (by kernel_rfl) (by omega) (by omega) (by omega) _) (fun _ => Eg.pk [0, 1]) fun _ HR => ?_
     have HS : i5 < zb u := by rw [hu]; omega
     refine q_r 2 (s := Instr.loadAt 31 (.pointer (some ⟨Ee, i5, none⟩))) (v := zm (za u i5 0)) HR (fun w hS => Zf (by kernel_rfl) (hS.heap.cell (k := 0) rfl (zx HS))) (Eg.pk [0, 1]) fun _ HT => q_s [3] [] 6 HT (Eg.pk [0, 1]) fun _ HU => q_f 4 (s := Instr.indexAt 87 (pt Ea) (ni i5)) (v := .pointer (some ⟨Ea, i5, none⟩)) HU (fun _ => Go.Dbr.run_indexarr (e := 31) (sz := 1) (m := 17) (j := i5) (o := i5) (by kernel_rfl) (by kernel_rfl) (by omega) (by omega) (by omega) _) (fun _ => Eg.pk [0, 1]) fun _ HV => ?_
     have HW : i5 < zb (n32 17 X) := by rw [(ZM _ _)]; omega
     refine q_r 5 (s := Instr.loadAt 31 (.pointer (some ⟨Ea, i5, none⟩))) (v := zm (za (n32 17 X) i5 0)) HV (fun w hS => Zf (by kernel_rfl) (hS.heap.cell (k := 1) rfl (zx HW))) (Eg.pk [0, 1]) fun _ HX => q_s [6,7,8,9] [(6, g_i .u64 (Go.Dbr.u64_sub (x := za u i5 0) (y := za (n32 17 X) i5 0) rfl rfl)), (8, g_i .u64 (Go.Dbr.u64_sub (x := (za u i5 0) - (za (n32 17 X) i5 0)) (y := b) rfl rfl))] 0 HX (Eg.pk [0, 1]) fun _ HY => ?_
     exact h_e ⟨HY.sb, Eg.pk [0, 1, 2]⟩
    rintro _ _ ⟨HZ, H0⟩
    refine ze <| wp_seq <| zk <| d_k [3,4,5,6,7,8,9,12,13,14,102,104] [(2, g_i .u64 (Go.Dbr.u64_and (x := ((za u i5 0) - (za (n32 17 X) i5 0)) - b) (y := (4294967295 : UInt64)) rfl rfl))] 3 HZ fun _ H1 => f_o <| q_v (x := Instr.indexAt 87 (pt Ee) (ni i5)) (v := .pointer (some ⟨Ee, i5, none⟩)) H1 (Go.Dbr.run_indexarr (e := 31) (sz := 1) (m := 17) (j := i5) (o := i5) (by kernel_rfl) (by kernel_rfl) (by omega) (by omega) (by omega) _) fun _ H2 => f_o ?_
    have H3 : i5 < zb u := by rw [hu]; omega
    refine m_t 0 i5 (zm ((((za u i5 0) - (za (n32 17 X) i5 0)) - b) &&& (4294967295 : UInt64))) [.box Ee (zh (zp u i5 ((((za u i5 0) - (za (n32 17 X) i5 0)) - b) &&& (4294967295 : UInt64)))) 87, .box Ea (zh (n32 17 X)) 87, .box Eb (zh (zd 4 0)) 33] H2 H0 rfl (zx H3) (ZU _ _ _) rfl fun _ _ H4 H5 => f_e <| ze <| d_r [3,4,5,6,7,8,9,12,13,14] [(1, g_i .u64 (Go.Dbr.u64_shr (x := ((za u i5 0) - (za (n32 17 X) i5 0)) - b) (n := 63) rfl (by decide)))] H4 fun _ H6 => zv <| ze <| d_r [3,4,5,6,7,8,9,12,13,14] [(1, g_n (w_a i5 1))] H6 fun _ H7 => ze <| ⟨_, ⟨i5 + 1, (zp u i5 ((((za u i5 0) - (za (n32 17 X) i5 0)) - b) &&& (4294967295 : UInt64))), ((((za u i5 0) - (za (n32 17 X) i5 0)) - b) >>> zc 63), rfl, H7.sb, H5.pk [0, 1, 2], by omega, (by simp [hu]), hdu.set (low32 _), (sub_dig (hdu _) (YG _ _ _) hb).2, sub_in hu (by omega) hdu hb hvu⟩, ?_⟩
    omega
   refine wp_exit <| zy <| zy <| zL <| ze ?_
   have hue := sub_all hu (by omega) hdu hXb (by assumption) hYb hvu
   rw [hue] at En
   refine zk <| f_o <| Zp 1 17 (zh (n32 17 X)) Ex En rfl (zf (ZM _ _)) fun _ H8 => f_o <| c_p H8 En (halved_go _ X (by assumption)) fun _ _ H9 aa => f_o <| zQ 1 17 (zh (n32 17 (X / 2))) _ H9 aa rfl (zf (ZM _ _)) (zf (ZM _ _)) (zt _) rfl fun _ _ ab ae => f_e <| zv <| ze <| d_r [3,4,5,6,7,8,9,12,13] [(1, g_n (w_r (e := ((q - 1 : Nat) : Int) - (1 : Int)) (x := ((q - 1 : Nat) : Int) - (1 : Int)) (by omega)))] ab fun _ af => ?_
   refine ze <| ⟨_, ⟨q - 1, (Y - X), (X / 2), rfl, af.sb, ae.pk [1, 0, 2], by rw [st_0 hX2 (by omega)], st_y hX2 (by omega) hY, st_m hX2 (by omega) (by assumption) hm, QK (JS _ _) hXb, QK (Nat.sub_le _ _) hYb, by omega⟩, ?_⟩
   omega
  replace Em : Y < X := by simpa using Em
  refine wp_skip <| ze <| zk <| f_o <| Zp 0 17 (zh (n32 17 X)) Ew Eu rfl (zf (ZM _ _)) fun _ ag => f_o <| c_p ag Eu (halved_go _ X (by assumption)) fun _ _ ah ai => f_o <| zQ 0 17 (zh (n32 17 (X / 2))) [.box Ea (zh (n32 17 (X / 2))) 87, .box Ee (zh (n32 17 Y)) 87, .box Eb (zh (zd 4 0)) 33] ah ai rfl (zf (ZM _ _)) (zf (ZM _ _)) (zt _) rfl fun _ _ aj ak => f_e <| zv <| ze <| d_r [3,4,5,6,7,8,9] [(1, g_n (w_r (e := ((q - 1 : Nat) : Int) - (1 : Int)) (x := ((q - 1 : Nat) : Int) - (1 : Int)) (by omega)))] aj fun _ al => ?_
  refine ze <| ⟨_, ⟨q - 1, Y, (X / 2), rfl, al.sb, ak.pk [0, 1, 2], by rw [st_0 hX2 (by omega)], by rw [← st_0 hX2 (by omega)]; assumption, hm, QK (JS _ _) hXb, hYb, by omega⟩, ?_⟩
  omega
 refine wp_exit <| zy <| zy <| zL <| ze <| wp_seq <| zk <| f_o <| Zp 1 17 (zh (n32 17 Y)) Et El rfl (zf (ZM _ _)) fun _ am => f_o <| c_p am El (number_go _ (n32 17 Y) (ZM _ _) (YG _ _)) fun _ _ an ao => f_o <| zQ 2 4 (zh (nd (dv 4294967296 (n32 17 Y)))) _ an ao rfl (zf (zl _ _)) (zf (zi)) (zt _) rfl fun _ _ ap EF => f_e <| ze <| wp_ret <| z9 (v := .agg (zg (zh (nd (dv 4294967296 (n32 17 Y)))))) (t := 4) (T := 33) (ad := ⟨Eb, 0, none⟩) ap (by kernel_rfl) (by kernel_rfl) (zB (t := 33) (k := 2) (off := 0) (m := 4) (xs := zh (nd (dv 4294967296 (n32 17 Y)))) EF rfl (zq (zf (zl _ _))) (zf (zl _ _)) (by kernel_rfl) (by kernel_rfl)) ?_
 have hq0 : q = 0 := by omega
 have e : nd (dv 4294967296 (n32 17 Y)) = nd (V % mF 4) := by rw [dv17 hYb, ← hm, zG (by rw [hq0] at hY; simpa using hY)]
 exact ⟨congrArg (fun l : List UInt64 => Ending.returned (Value.agg (zh l).toArray)) e, EF.pk []⟩
theorem slowly_l (w : World) (l : List UInt64) (hl : zb l = 17) (hd : DG l) (hb : dv 4294967296 l < 4294967296 ^ 16) : Calls Tryz.prog 91 #[.agg (zg (zh (nd (mF 4)))), .agg (zg (zh l))] w fun e w' => e = .returned (.agg (zg (zh (nd (dv 4294967296 l % mF 4))))) ∧ Ev w [] w' [] := by
  have e : l = n32 17 (dv 4294967296 l) := n32_of hl hd rfl
  have h := slowly_go w (dv 4294967296 l) hb
  rwa [← e] at h
theorem left4_go (w : World) (n : List UInt64) (hn : zb n = 17) (hdn : DG n) (hb : dv 4294967296 n < 4294967296 ^ 16) : Calls Tryz.prog 64 #[.int .i64 4, .agg (zg (zh n))] w fun e w' => e = .returned (.agg (zg (zh (nd (dv 4294967296 n % mF 4))))) ∧ Ev w [] w' [] := by
 refine d_0 [(0, .int .i64 4), (1, .agg (zg (zh n)))] 85 Go.Proofs.Tryz.func64 Go.Proofs.Tryz.ntmps64 (Heap.nil _) fun Er Es Et => wp_seq <| zk <| f_o <| m_m 87 (zh n) Es Et fun _ _ Eu Ew Ex => f_o <| m_z 33 (zh (zd 4 0)) Ew Ex fun _ _ Eq Ey Ed => f_e <| ze <| wp_seq <| zk <| d_k [0,3,4,14] [] 1 Ey fun _ Ee => ?_
 refine f_o <| c_p Ee Ed (rmodulus_go _ 4) fun _ _ Ef Eg => f_o <| m_z 33 (zh (zd 4 0)) Ef Eg fun _ _ Eh Ei Ej => f_o <| zQ 2 4 (zh (nd (mF 4))) _ Ei Ej rfl (zf (zl _ _)) (zf (zi)) (zt _) rfl fun _ _ Ek Ea => f_e <| ze <| wp_seq <| d_s [0,3,4,5,17] [] Ek fun _ Eb => ?_
 refine c_t Eb ?_
 refine wp_seq <| zk <| f_o <| Zp 2 4 (zh (nd (mF 4))) Eb Ea rfl (zf (zl _ _)) fun _ El => f_o <| Zp 0 17 (zh n) El Ea rfl (zf hn) fun _ Em => f_o <| c_p Em Ea (slowly_l _ n hn hdn hb) fun _ _ En Eo => f_o <| zQ 1 4 (zh (nd (dv 4294967296 n % mF 4))) [.box Eu (zh n) 87, .box Eq (zh (nd (dv 4294967296 n % mF 4))) 33, .box Eh (zh (nd (mF 4))) 33] En Eo rfl (zf (zl _ _)) (zf (zi)) (zt _) rfl fun _ _ Ep Ec => ?_
 refine f_e <| ze <| wp_ret <| ZE <| z9 (v := .agg (zg (zh (nd (dv 4294967296 n % mF 4))))) (t := 4) (T := 33) (ad := ⟨Eq, 0, none⟩) Ep (by kernel_rfl) (by kernel_rfl) (zB (t := 33) (k := 1) (off := 0) (m := 4) (xs := zh (nd (dv 4294967296 n % mF 4))) Ec rfl (zq (zf (zl _ _))) (zf (zl _ _)) (by kernel_rfl) (by kernel_rfl)) ?_
 exact ⟨rfl, Ec.pk []⟩
theorem leftOk {f : Int} (hf : f = 1 ∨ f = 2 ∨ f = 3 ∨ f = 4) : LeftOk f := by
  by_cases h3 : f = 1 ∨ f = 2 ∨ f = 3
  · exact leftOk3 h3
  · obtain rfl : f = 4 := by omega
    exact left4_go
end Go.Proofs.YtlnogkmnklfjlaaGreatDoor

namespace Go.Proofs.YtlnogkmnklfjlaaGreatDoor
open Go.Dbr
set_option maxRecDepth 100000
set_option maxHeartbeats 2000000
set_option linter.unusedVariables false
set_option linter.unusedSimpArgs false
theorem sh_1 {x y : UInt64} : ((x >>> zc 1) ||| (y <<< zc 63)).toNat = x.toNat / 2 + y.toNat % 2 * 9223372036854775808 := by
  have hx := Qb x
  have hy := Qb y
  rw [Ya, shr_n x (by decide), Qq, show (zc 63).toNat % 64 = 63 from rfl]
  have e : y.toNat <<< 63 % 2 ^ 64 = (y.toNat % 2) <<< 63 := by rw [Zy, Zy]; omega
  rw [e, JQ, ← Z3 (by omega), Zy]
  omega
theorem shl_1 (a0 a1 a2 a3 : UInt64) : [((a0 >>> zc 1) ||| (a1 <<< zc 63)), ((a1 >>> zc 1) ||| (a2 <<< zc 63)), ((a2 >>> zc 1) ||| (a3 <<< zc 63)), a3 >>> zc 1] = nd (nv [a0, a1, a2, a3] / 2) := by
  refine nv_inj rfl (zl _ _) ?_
  have h0 := Qb a0; have h1 := Qb a1; have h2 := Qb a2; have h3 := Qb a3
  rw [nd_val, nv4, nv4, sh_1, sh_1, sh_1, shr_n a3 (by decide)]
  simp only [zU]
  omega
theorem sh_2 {x y : UInt64} : ((x >>> zc 2) ||| (y <<< zc 62)).toNat = x.toNat / 4 + y.toNat % 4 * 4611686018427387904 := by
  have hx := Qb x
  have hy := Qb y
  rw [Ya, shr_n x (by decide), Qq, show (zc 62).toNat % 64 = 62 from rfl]
  have e : y.toNat <<< 62 % 2 ^ 64 = (y.toNat % 4) <<< 62 := by rw [Zy, Zy]; omega
  rw [e, JQ, ← Z3 (by omega), Zy]
  omega
theorem shl_2 (a0 a1 a2 a3 : UInt64) : [((a0 >>> zc 2) ||| (a1 <<< zc 62)), ((a1 >>> zc 2) ||| (a2 <<< zc 62)), ((a2 >>> zc 2) ||| (a3 <<< zc 62)), a3 >>> zc 2] = nd (nv [a0, a1, a2, a3] / 4) := by
  refine nv_inj rfl (zl _ _) ?_
  have h0 := Qb a0; have h1 := Qb a1; have h2 := Qb a2; have h3 := Qb a3
  rw [nd_val, nv4, nv4, sh_2, sh_2, sh_2, shr_n a3 (by decide)]
  simp only [zU]
  omega
theorem sh_3 {x y : UInt64} : ((x >>> zc 3) ||| (y <<< zc 61)).toNat = x.toNat / 8 + y.toNat % 8 * 2305843009213693952 := by
  have hx := Qb x
  have hy := Qb y
  rw [Ya, shr_n x (by decide), Qq, show (zc 61).toNat % 64 = 61 from rfl]
  have e : y.toNat <<< 61 % 2 ^ 64 = (y.toNat % 8) <<< 61 := by rw [Zy, Zy]; omega
  rw [e, JQ, ← Z3 (by omega), Zy]
  omega
theorem shl_3 (a0 a1 a2 a3 : UInt64) : [((a0 >>> zc 3) ||| (a1 <<< zc 61)), ((a1 >>> zc 3) ||| (a2 <<< zc 61)), ((a2 >>> zc 3) ||| (a3 <<< zc 61)), a3 >>> zc 3] = nd (nv [a0, a1, a2, a3] / 8) := by
  refine nv_inj rfl (zl _ _) ?_
  have h0 := Qb a0; have h1 := Qb a1; have h2 := Qb a2; have h3 := Qb a3
  rw [nd_val, nv4, nv4, sh_3, sh_3, sh_3, shr_n a3 (by decide)]
  simp only [zU]
  omega
theorem shift24 (w : World) (a0 a1 a2 a3 : UInt64) : Calls Tryz.prog 95 #[.agg #[zm a0, zm a1, zm a2, zm a3], .int .i64 2] w fun e w' => e = .returned (.agg (zg (zh (nd (nv [a0, a1, a2, a3] / 4))))) ∧ Ev w [] w' [] := by
 refine d_0 [(0, .agg #[zm a0, zm a1, zm a2, zm a3]), (1, .int .i64 2)] 31 Go.Proofs.Tryz.func95 Go.Proofs.Tryz.ntmps95 (Heap.nil _) fun Hn Ho Hp => wp_seq <| zk <| f_o <| m_m 33 [zm a0, zm a1, zm a2, zm a3] Ho Hp fun _ _ Ec Hq Hr => f_o <| m_z 33 (zh (zd 4 0)) Hq Hr fun _ _ Ed Hs Er => f_e <| ze <| wp_seq <| d_s [1,2,4,6] [] Hs fun _ E4 => ?_
 refine wp_block <| QI ?_
 refine zF <| d_s [1,2,4,6,7] [] E4 fun _ Es => wp_seq <| c_t Es ?_
 refine wp_skip <| ze <| wp_seq <| wp_block <| d_s [1,2,4,5,6] [] Es fun _ E5 => wp_seq <| zk <| d_k [1,2,4,5,6,9,10] [] 2 E5 fun _ E6 => f_o <| m_l 0 E6 Er fun _ E7 => d_k [1,2,4,5,6,13,14] [(4, g_i .u64 (Go.Dbr.u64_shr (x := a0) (n := 2) rfl (by decide)))] 6 E7 fun _ E8 => ?_
 refine f_o <| m_s 0 [.box Ec [zm (a0 >>> zc 2), zm a1, zm a2, zm a3] 33, .box Ed (zh (zd 4 0)) 33] E8 Er fun _ _ E9 Et => f_e <| ze <| d_s [1,2,4,5,6,16] [] E9 fun _ Eu => c_t Eu ?_
 refine r_c (fun ac wo => Env ac 31 [(1, .int .i64 2), (2, pt Ec), (4, pt Ed), (5, .int .i64 0), (6, .int .i64 0)] ∧ Ev w [] wo [.box Ec [zm ((a0 >>> zc 2) ||| (a1 <<< zc 62)), zm a1, zm a2, zm a3] 33, .box Ed (zh (zd 4 0)) 33]) ?_ ?_
 ·
  refine h_s (fun wv => Ev w [] wv [.box Ec [zm (a0 >>> zc 2), zm a1, zm a2, zm a3] 33]) [12] 13 ?_
  have Ee := Et.trans (zO Et.heap)
  refine q_s [0,1] [] 11 Eu (Ee.pk [0]) fun _ Ha => q_l 0 2 Ha (Ee.pk [0]) fun _ Hb => q_s [3,4,5] [] 7 Hb (Ee.pk [0]) fun _ Hc => q_l 0 6 Hc (Ee.pk [0]) fun _ Hd => ?_
  refine q_s [7,8,9,10,11] [(9, g_i .u64 (Go.Dbr.u64_shl (x := a1) (n := 62) rfl (by decide))), (10, g_i .u64 (Go.Dbr.u64_or (x := a0 >>> zc 2) (y := a1 <<< zc 62) rfl rfl))] 1 Hd (Ee.pk [0]) fun _ He => q_t 12 ?_
  refine m_s 0 [.box Ec [zm ((a0 >>> zc 2) ||| (a1 <<< zc 62)), zm a1, zm a2, zm a3] 33, .box Ed (zh (zd 4 0)) 33] He Ee fun _ _ Hf Hg => ⟨q_y, ?_⟩
  exact h_e ⟨Hf.sb, Hg.pk [0, 1]⟩
 rintro _ _ ⟨Hh, Ew⟩
 refine zv <| ze <| d_r [1,2,4,5,6] [] Hh fun _ Hi => ze <| zF <| d_s [1,2,4,5,6,7] [] Hi fun _ Ex => wp_seq <| c_t Ex ?_
 refine wp_skip <| ze <| wp_seq <| wp_block <| d_s [1,2,4,5,6] [] Ex fun _ Hj => wp_seq <| zk <| d_k [1,2,4,5,6,9,10] [] 2 Hj fun _ Hk => f_o <| m_l 0 Hk Ew fun _ Hl => d_k [1,2,4,5,6,13,14] [(4, g_i .u64 (Go.Dbr.u64_shr (x := a1) (n := 2) rfl (by decide)))] 6 Hl fun _ Hm => ?_
 refine f_o <| m_s 0 [.box Ec [zm ((a0 >>> zc 2) ||| (a1 <<< zc 62)), zm (a1 >>> zc 2), zm a2, zm a3] 33, .box Ed (zh (zd 4 0)) 33] Hm Ew fun _ _ Ey Ef => f_e <| ze <| d_s [1,2,4,5,6,16] [] Ey fun _ Eg => c_t Eg ?_
 refine r_c (fun ac wo => Env ac 31 [(1, .int .i64 2), (2, pt Ec), (4, pt Ed), (5, .int .i64 1), (6, .int .i64 1)] ∧ Ev w [] wo [.box Ec [zm ((a0 >>> zc 2) ||| (a1 <<< zc 62)), zm ((a1 >>> zc 2) ||| (a2 <<< zc 62)), zm a2, zm a3] 33, .box Ed (zh (zd 4 0)) 33]) ?_ ?_
 ·
  refine h_s (fun wv => Ev w [] wv [.box Ec [zm ((a0 >>> zc 2) ||| (a1 <<< zc 62)), zm (a1 >>> zc 2), zm a2, zm a3] 33]) [12] 13 ?_
  have Ea := Ef.trans (zO Ef.heap)
  refine q_s [0,1] [] 11 Eg (Ea.pk [0]) fun _ Ez => q_l 0 2 Ez (Ea.pk [0]) fun _ EA => q_s [3,4,5] [] 7 EA (Ea.pk [0]) fun _ EB => q_l 0 6 EB (Ea.pk [0]) fun _ EC => ?_
  refine q_s [7,8,9,10,11] [(9, g_i .u64 (Go.Dbr.u64_shl (x := a2) (n := 62) rfl (by decide))), (10, g_i .u64 (Go.Dbr.u64_or (x := a1 >>> zc 2) (y := a2 <<< zc 62) rfl rfl))] 1 EC (Ea.pk [0]) fun _ ED => q_t 12 ?_
  refine m_s 0 [.box Ec [zm ((a0 >>> zc 2) ||| (a1 <<< zc 62)), zm ((a1 >>> zc 2) ||| (a2 <<< zc 62)), zm a2, zm a3] 33, .box Ed (zh (zd 4 0)) 33] ED Ea fun _ _ EE EF => ⟨q_y, ?_⟩
  exact h_e ⟨EE.sb, EF.pk [0, 1]⟩
 rintro _ _ ⟨EG, Eh⟩
 refine zv <| ze <| d_r [1,2,4,5,6] [] EG fun _ EH => ze <| zF <| d_s [1,2,4,5,6,7] [] EH fun _ Ei => wp_seq <| c_t Ei ?_
 refine wp_skip <| ze <| wp_seq <| wp_block <| d_s [1,2,4,5,6] [] Ei fun _ EI => wp_seq <| zk <| d_k [1,2,4,5,6,9,10] [] 2 EI fun _ EJ => f_o <| m_l 0 EJ Eh fun _ EK => d_k [1,2,4,5,6,13,14] [(4, g_i .u64 (Go.Dbr.u64_shr (x := a2) (n := 2) rfl (by decide)))] 6 EK fun _ EL => ?_
 refine f_o <| m_s 0 [.box Ec [zm ((a0 >>> zc 2) ||| (a1 <<< zc 62)), zm ((a1 >>> zc 2) ||| (a2 <<< zc 62)), zm (a2 >>> zc 2), zm a3] 33, .box Ed (zh (zd 4 0)) 33] EL Eh fun _ _ EM Ej => f_e <| ze <| d_s [1,2,4,5,6,16] [] EM fun _ Ek => c_t Ek ?_
 refine r_c (fun ac wo => Env ac 31 [(1, .int .i64 2), (2, pt Ec), (4, pt Ed), (5, .int .i64 2), (6, .int .i64 2)] ∧ Ev w [] wo [.box Ec [zm ((a0 >>> zc 2) ||| (a1 <<< zc 62)), zm ((a1 >>> zc 2) ||| (a2 <<< zc 62)), zm ((a2 >>> zc 2) ||| (a3 <<< zc 62)), zm a3] 33, .box Ed (zh (zd 4 0)) 33]) ?_ ?_
 ·
  refine h_s (fun wv => Ev w [] wv [.box Ec [zm ((a0 >>> zc 2) ||| (a1 <<< zc 62)), zm ((a1 >>> zc 2) ||| (a2 <<< zc 62)), zm (a2 >>> zc 2), zm a3] 33]) [12] 13 ?_
  have Eb := Ej.trans (zO Ej.heap)
  refine q_s [0,1] [] 11 Ek (Eb.pk [0]) fun _ EN => q_l 0 2 EN (Eb.pk [0]) fun _ EO => q_s [3,4,5] [] 7 EO (Eb.pk [0]) fun _ EP => q_l 0 6 EP (Eb.pk [0]) fun _ EQ => ?_
  refine q_s [7,8,9,10,11] [(9, g_i .u64 (Go.Dbr.u64_shl (x := a3) (n := 62) rfl (by decide))), (10, g_i .u64 (Go.Dbr.u64_or (x := a2 >>> zc 2) (y := a3 <<< zc 62) rfl rfl))] 1 EQ (Eb.pk [0]) fun _ ER => q_t 12 ?_
  refine m_s 0 [.box Ec [zm ((a0 >>> zc 2) ||| (a1 <<< zc 62)), zm ((a1 >>> zc 2) ||| (a2 <<< zc 62)), zm ((a2 >>> zc 2) ||| (a3 <<< zc 62)), zm a3] 33, .box Ed (zh (zd 4 0)) 33] ER Eb fun _ _ ES ET => ⟨q_y, ?_⟩
  exact h_e ⟨ES.sb, ET.pk [0, 1]⟩
 rintro _ _ ⟨EU, El⟩
 refine zv <| ze <| d_r [1,2,4,5,6] [] EU fun _ EV => ze <| zF <| d_s [1,2,4,5,6,7] [] EV fun _ Em => wp_seq <| c_t Em ?_
 refine wp_skip <| ze <| wp_seq <| wp_block <| d_s [1,2,4,5,6] [] Em fun _ EW => wp_seq <| zk <| d_k [1,2,4,5,6,9,10] [] 2 EW fun _ EX => f_o <| m_l 0 EX El fun _ EY => d_k [1,2,4,5,6,13,14] [(4, g_i .u64 (Go.Dbr.u64_shr (x := a3) (n := 2) rfl (by decide)))] 6 EY fun _ EZ => ?_
 refine f_o <| m_s 0 [.box Ec [zm ((a0 >>> zc 2) ||| (a1 <<< zc 62)), zm ((a1 >>> zc 2) ||| (a2 <<< zc 62)), zm ((a2 >>> zc 2) ||| (a3 <<< zc 62)), zm (a3 >>> zc 2)] 33, .box Ed (zh (zd 4 0)) 33] EZ El fun _ _ E0 En => f_e <| ze <| d_s [1,2,4,5,6,16] [] E0 fun _ Eo => c_f Eo ?_
 refine wp_skip <| zv <| ze <| d_r [1,2,4,5,6] [] Eo fun _ E1 => ze <| zF <| d_s [1,2,4,5,6,7] [] E1 fun _ Ep => wp_seq <| c_f Ep ?_
 refine wp_exit <| zy <| zy <| zL <| ze <| wp_seq <| zk <| f_o <| m_a 0 0 4 [zm ((a0 >>> zc 2) ||| (a1 <<< zc 62)), zm ((a1 >>> zc 2) ||| (a2 <<< zc 62)), zm ((a2 >>> zc 2) ||| (a3 <<< zc 62)), zm (a3 >>> zc 2)] Ep En rfl rfl rfl fun _ E2 => f_o <| zQ 1 4 [zm ((a0 >>> zc 2) ||| (a1 <<< zc 62)), zm ((a1 >>> zc 2) ||| (a2 <<< zc 62)), zm ((a2 >>> zc 2) ||| (a3 <<< zc 62)), zm (a3 >>> zc 2)] _ E2 En rfl rfl (zf (zi)) (one_all (by kernel_rfl)) rfl fun _ _ E3 Eq => f_e <| ze <| wp_ret <| z9 (v := .agg #[zm ((a0 >>> zc 2) ||| (a1 <<< zc 62)), zm ((a1 >>> zc 2) ||| (a2 <<< zc 62)), zm ((a2 >>> zc 2) ||| (a3 <<< zc 62)), zm (a3 >>> zc 2)]) (t := 4) (T := 33) (ad := ⟨Ed, 0, none⟩) E3 (by kernel_rfl) (by kernel_rfl) (zB (t := 33) (k := 1) (off := 0) (m := 4) (xs := [zm ((a0 >>> zc 2) ||| (a1 <<< zc 62)), zm ((a1 >>> zc 2) ||| (a2 <<< zc 62)), zm ((a2 >>> zc 2) ||| (a3 <<< zc 62)), zm (a3 >>> zc 2)]) Eq rfl rfl rfl (by kernel_rfl) (by kernel_rfl)) ?_
 have e : [(a0 >>> zc 2) ||| (a1 <<< zc 62), (a1 >>> zc 2) ||| (a2 <<< zc 62), (a2 >>> zc 2) ||| (a3 <<< zc 62), a3 >>> zc 2] = nd (nv [a0, a1, a2, a3] / 4) := shl_2 a0 a1 a2 a3
 exact ⟨congrArg (fun l : List UInt64 => Ending.returned (Value.agg (zh l).toArray)) e, Eq.pk []⟩
theorem shift2_go (w : World) (a : List UInt64) (ha : zb a = 4) : Calls Tryz.prog 95 #[.agg (zg (zh a)), .int .i64 2] w fun e w' => e = .returned (.agg (zg (zh (nd (nv a / 4))))) ∧ Ev w [] w' [] := by
  match a, ha with
  | [a0, a1, a2, a3], _ => exact shift24 w a0 a1 a2 a3
theorem shift34 (w : World) (a0 a1 a2 a3 : UInt64) : Calls Tryz.prog 95 #[.agg #[zm a0, zm a1, zm a2, zm a3], .int .i64 3] w fun e w' => e = .returned (.agg (zg (zh (nd (nv [a0, a1, a2, a3] / 8))))) ∧ Ev w [] w' [] := by
 refine d_0 [(0, .agg #[zm a0, zm a1, zm a2, zm a3]), (1, .int .i64 3)] 31 Go.Proofs.Tryz.func95 Go.Proofs.Tryz.ntmps95 (Heap.nil _) fun Hn Ho Hp => wp_seq <| zk <| f_o <| m_m 33 [zm a0, zm a1, zm a2, zm a3] Ho Hp fun _ _ Ec Hq Hr => f_o <| m_z 33 (zh (zd 4 0)) Hq Hr fun _ _ Ed Hs Er => f_e <| ze <| wp_seq <| d_s [1,2,4,6] [] Hs fun _ E4 => ?_
 refine wp_block <| QI ?_
 refine zF <| d_s [1,2,4,6,7] [] E4 fun _ Es => wp_seq <| c_t Es ?_
 refine wp_skip <| ze <| wp_seq <| wp_block <| d_s [1,2,4,5,6] [] Es fun _ E5 => wp_seq <| zk <| d_k [1,2,4,5,6,9,10] [] 2 E5 fun _ E6 => f_o <| m_l 0 E6 Er fun _ E7 => d_k [1,2,4,5,6,13,14] [(4, g_i .u64 (Go.Dbr.u64_shr (x := a0) (n := 3) rfl (by decide)))] 6 E7 fun _ E8 => ?_
 refine f_o <| m_s 0 [.box Ec [zm (a0 >>> zc 3), zm a1, zm a2, zm a3] 33, .box Ed (zh (zd 4 0)) 33] E8 Er fun _ _ E9 Et => f_e <| ze <| d_s [1,2,4,5,6,16] [] E9 fun _ Eu => c_t Eu ?_
 refine r_c (fun ac wo => Env ac 31 [(1, .int .i64 3), (2, pt Ec), (4, pt Ed), (5, .int .i64 0), (6, .int .i64 0)] ∧ Ev w [] wo [.box Ec [zm ((a0 >>> zc 3) ||| (a1 <<< zc 61)), zm a1, zm a2, zm a3] 33, .box Ed (zh (zd 4 0)) 33]) ?_ ?_
 ·
  refine h_s (fun wv => Ev w [] wv [.box Ec [zm (a0 >>> zc 3), zm a1, zm a2, zm a3] 33]) [12] 13 ?_
  have Ee := Et.trans (zO Et.heap)
  refine q_s [0,1] [] 11 Eu (Ee.pk [0]) fun _ Ha => q_l 0 2 Ha (Ee.pk [0]) fun _ Hb => q_s [3,4,5] [] 7 Hb (Ee.pk [0]) fun _ Hc => q_l 0 6 Hc (Ee.pk [0]) fun _ Hd => ?_
  refine q_s [7,8,9,10,11] [(9, g_i .u64 (Go.Dbr.u64_shl (x := a1) (n := 61) rfl (by decide))), (10, g_i .u64 (Go.Dbr.u64_or (x := a0 >>> zc 3) (y := a1 <<< zc 61) rfl rfl))] 1 Hd (Ee.pk [0]) fun _ He => q_t 12 ?_
  refine m_s 0 [.box Ec [zm ((a0 >>> zc 3) ||| (a1 <<< zc 61)), zm a1, zm a2, zm a3] 33, .box Ed (zh (zd 4 0)) 33] He Ee fun _ _ Hf Hg => ⟨q_y, ?_⟩
  exact h_e ⟨Hf.sb, Hg.pk [0, 1]⟩
 rintro _ _ ⟨Hh, Ew⟩
 refine zv <| ze <| d_r [1,2,4,5,6] [] Hh fun _ Hi => ze <| zF <| d_s [1,2,4,5,6,7] [] Hi fun _ Ex => wp_seq <| c_t Ex ?_
 refine wp_skip <| ze <| wp_seq <| wp_block <| d_s [1,2,4,5,6] [] Ex fun _ Hj => wp_seq <| zk <| d_k [1,2,4,5,6,9,10] [] 2 Hj fun _ Hk => f_o <| m_l 0 Hk Ew fun _ Hl => d_k [1,2,4,5,6,13,14] [(4, g_i .u64 (Go.Dbr.u64_shr (x := a1) (n := 3) rfl (by decide)))] 6 Hl fun _ Hm => ?_
 refine f_o <| m_s 0 [.box Ec [zm ((a0 >>> zc 3) ||| (a1 <<< zc 61)), zm (a1 >>> zc 3), zm a2, zm a3] 33, .box Ed (zh (zd 4 0)) 33] Hm Ew fun _ _ Ey Ef => f_e <| ze <| d_s [1,2,4,5,6,16] [] Ey fun _ Eg => c_t Eg ?_
 refine r_c (fun ac wo => Env ac 31 [(1, .int .i64 3), (2, pt Ec), (4, pt Ed), (5, .int .i64 1), (6, .int .i64 1)] ∧ Ev w [] wo [.box Ec [zm ((a0 >>> zc 3) ||| (a1 <<< zc 61)), zm ((a1 >>> zc 3) ||| (a2 <<< zc 61)), zm a2, zm a3] 33, .box Ed (zh (zd 4 0)) 33]) ?_ ?_
 ·
  refine h_s (fun wv => Ev w [] wv [.box Ec [zm ((a0 >>> zc 3) ||| (a1 <<< zc 61)), zm (a1 >>> zc 3), zm a2, zm a3] 33]) [12] 13 ?_
  have Ea := Ef.trans (zO Ef.heap)
  refine q_s [0,1] [] 11 Eg (Ea.pk [0]) fun _ Ez => q_l 0 2 Ez (Ea.pk [0]) fun _ EA => q_s [3,4,5] [] 7 EA (Ea.pk [0]) fun _ EB => q_l 0 6 EB (Ea.pk [0]) fun _ EC => ?_
  refine q_s [7,8,9,10,11] [(9, g_i .u64 (Go.Dbr.u64_shl (x := a2) (n := 61) rfl (by decide))), (10, g_i .u64 (Go.Dbr.u64_or (x := a1 >>> zc 3) (y := a2 <<< zc 61) rfl rfl))] 1 EC (Ea.pk [0]) fun _ ED => q_t 12 ?_
  refine m_s 0 [.box Ec [zm ((a0 >>> zc 3) ||| (a1 <<< zc 61)), zm ((a1 >>> zc 3) ||| (a2 <<< zc 61)), zm a2, zm a3] 33, .box Ed (zh (zd 4 0)) 33] ED Ea fun _ _ EE EF => ⟨q_y, ?_⟩
  exact h_e ⟨EE.sb, EF.pk [0, 1]⟩
 rintro _ _ ⟨EG, Eh⟩
 refine zv <| ze <| d_r [1,2,4,5,6] [] EG fun _ EH => ze <| zF <| d_s [1,2,4,5,6,7] [] EH fun _ Ei => wp_seq <| c_t Ei ?_
 refine wp_skip <| ze <| wp_seq <| wp_block <| d_s [1,2,4,5,6] [] Ei fun _ EI => wp_seq <| zk <| d_k [1,2,4,5,6,9,10] [] 2 EI fun _ EJ => f_o <| m_l 0 EJ Eh fun _ EK => d_k [1,2,4,5,6,13,14] [(4, g_i .u64 (Go.Dbr.u64_shr (x := a2) (n := 3) rfl (by decide)))] 6 EK fun _ EL => ?_
 refine f_o <| m_s 0 [.box Ec [zm ((a0 >>> zc 3) ||| (a1 <<< zc 61)), zm ((a1 >>> zc 3) ||| (a2 <<< zc 61)), zm (a2 >>> zc 3), zm a3] 33, .box Ed (zh (zd 4 0)) 33] EL Eh fun _ _ EM Ej => f_e <| ze <| d_s [1,2,4,5,6,16] [] EM fun _ Ek => c_t Ek ?_
 refine r_c (fun ac wo => Env ac 31 [(1, .int .i64 3), (2, pt Ec), (4, pt Ed), (5, .int .i64 2), (6, .int .i64 2)] ∧ Ev w [] wo [.box Ec [zm ((a0 >>> zc 3) ||| (a1 <<< zc 61)), zm ((a1 >>> zc 3) ||| (a2 <<< zc 61)), zm ((a2 >>> zc 3) ||| (a3 <<< zc 61)), zm a3] 33, .box Ed (zh (zd 4 0)) 33]) ?_ ?_
 ·
  refine h_s (fun wv => Ev w [] wv [.box Ec [zm ((a0 >>> zc 3) ||| (a1 <<< zc 61)), zm ((a1 >>> zc 3) ||| (a2 <<< zc 61)), zm (a2 >>> zc 3), zm a3] 33]) [12] 13 ?_
  have Eb := Ej.trans (zO Ej.heap)
  refine q_s [0,1] [] 11 Ek (Eb.pk [0]) fun _ EN => q_l 0 2 EN (Eb.pk [0]) fun _ EO => q_s [3,4,5] [] 7 EO (Eb.pk [0]) fun _ EP => q_l 0 6 EP (Eb.pk [0]) fun _ EQ => ?_
  refine q_s [7,8,9,10,11] [(9, g_i .u64 (Go.Dbr.u64_shl (x := a3) (n := 61) rfl (by decide))), (10, g_i .u64 (Go.Dbr.u64_or (x := a2 >>> zc 3) (y := a3 <<< zc 61) rfl rfl))] 1 EQ (Eb.pk [0]) fun _ ER => q_t 12 ?_
  refine m_s 0 [.box Ec [zm ((a0 >>> zc 3) ||| (a1 <<< zc 61)), zm ((a1 >>> zc 3) ||| (a2 <<< zc 61)), zm ((a2 >>> zc 3) ||| (a3 <<< zc 61)), zm a3] 33, .box Ed (zh (zd 4 0)) 33] ER Eb fun _ _ ES ET => ⟨q_y, ?_⟩
  exact h_e ⟨ES.sb, ET.pk [0, 1]⟩
 rintro _ _ ⟨EU, El⟩
 refine zv <| ze <| d_r [1,2,4,5,6] [] EU fun _ EV => ze <| zF <| d_s [1,2,4,5,6,7] [] EV fun _ Em => wp_seq <| c_t Em ?_
 refine wp_skip <| ze <| wp_seq <| wp_block <| d_s [1,2,4,5,6] [] Em fun _ EW => wp_seq <| zk <| d_k [1,2,4,5,6,9,10] [] 2 EW fun _ EX => f_o <| m_l 0 EX El fun _ EY => d_k [1,2,4,5,6,13,14] [(4, g_i .u64 (Go.Dbr.u64_shr (x := a3) (n := 3) rfl (by decide)))] 6 EY fun _ EZ => ?_
 refine f_o <| m_s 0 [.box Ec [zm ((a0 >>> zc 3) ||| (a1 <<< zc 61)), zm ((a1 >>> zc 3) ||| (a2 <<< zc 61)), zm ((a2 >>> zc 3) ||| (a3 <<< zc 61)), zm (a3 >>> zc 3)] 33, .box Ed (zh (zd 4 0)) 33] EZ El fun _ _ E0 En => f_e <| ze <| d_s [1,2,4,5,6,16] [] E0 fun _ Eo => c_f Eo ?_
 refine wp_skip <| zv <| ze <| d_r [1,2,4,5,6] [] Eo fun _ E1 => ze <| zF <| d_s [1,2,4,5,6,7] [] E1 fun _ Ep => wp_seq <| c_f Ep ?_
 refine wp_exit <| zy <| zy <| zL <| ze <| wp_seq <| zk <| f_o <| m_a 0 0 4 [zm ((a0 >>> zc 3) ||| (a1 <<< zc 61)), zm ((a1 >>> zc 3) ||| (a2 <<< zc 61)), zm ((a2 >>> zc 3) ||| (a3 <<< zc 61)), zm (a3 >>> zc 3)] Ep En rfl rfl rfl fun _ E2 => f_o <| zQ 1 4 [zm ((a0 >>> zc 3) ||| (a1 <<< zc 61)), zm ((a1 >>> zc 3) ||| (a2 <<< zc 61)), zm ((a2 >>> zc 3) ||| (a3 <<< zc 61)), zm (a3 >>> zc 3)] _ E2 En rfl rfl (zf (zi)) (one_all (by kernel_rfl)) rfl fun _ _ E3 Eq => f_e <| ze <| wp_ret <| z9 (v := .agg #[zm ((a0 >>> zc 3) ||| (a1 <<< zc 61)), zm ((a1 >>> zc 3) ||| (a2 <<< zc 61)), zm ((a2 >>> zc 3) ||| (a3 <<< zc 61)), zm (a3 >>> zc 3)]) (t := 4) (T := 33) (ad := ⟨Ed, 0, none⟩) E3 (by kernel_rfl) (by kernel_rfl) (zB (t := 33) (k := 1) (off := 0) (m := 4) (xs := [zm ((a0 >>> zc 3) ||| (a1 <<< zc 61)), zm ((a1 >>> zc 3) ||| (a2 <<< zc 61)), zm ((a2 >>> zc 3) ||| (a3 <<< zc 61)), zm (a3 >>> zc 3)]) Eq rfl rfl rfl (by kernel_rfl) (by kernel_rfl)) ?_
 have e : [(a0 >>> zc 3) ||| (a1 <<< zc 61), (a1 >>> zc 3) ||| (a2 <<< zc 61), (a2 >>> zc 3) ||| (a3 <<< zc 61), a3 >>> zc 3] = nd (nv [a0, a1, a2, a3] / 8) := shl_3 a0 a1 a2 a3
 exact ⟨congrArg (fun l : List UInt64 => Ending.returned (Value.agg (zh l).toArray)) e, Eq.pk []⟩
theorem shift3_go (w : World) (a : List UInt64) (ha : zb a = 4) : Calls Tryz.prog 95 #[.agg (zg (zh a)), .int .i64 3] w fun e w' => e = .returned (.agg (zg (zh (nd (nv a / 8))))) ∧ Ev w [] w' [] := by
  match a, ha with
  | [a0, a1, a2, a3], _ => exact shift34 w a0 a1 a2 a3
theorem half4 (w : World) (a0 a1 a2 a3 : UInt64) : Calls Tryz.prog 109 #[.agg #[zm a0, zm a1, zm a2, zm a3]] w fun e w' => e = .returned (.agg (zg (zh (nd (nv [a0, a1, a2, a3] / 2))))) ∧ Ev w [] w' [] := by
 refine d_0 [(0, .agg #[zm a0, zm a1, zm a2, zm a3])] 28 Go.Proofs.Tryz.func109 Go.Proofs.Tryz.ntmps109 (Heap.nil _) fun Hj Hk Hl => wp_seq <| zk <| f_o <| m_m 33 [zm a0, zm a1, zm a2, zm a3] Hk Hl fun _ _ Ec Hm Hn => f_o <| m_z 33 (zh (zd 4 0)) Hm Hn fun _ _ Ed Ho Ep => f_e <| ze <| wp_seq <| d_s [1,2,3] [] Ho fun _ E1 => ?_
 refine wp_block <| QI ?_
 refine zF <| wp_seq <| d_s [1,2,3,5] [] E1 fun _ Eq => c_t Eq ?_
 refine wp_skip <| ze <| wp_seq <| wp_block <| wp_seq <| zk <| d_k [1,2,3,8,10] [] 3 Eq fun _ E2 => f_o <| m_l 0 E2 Ep fun _ E3 => d_k [1,2,3,12,13] [(4, g_i .u64 (Go.Dbr.u64_shr (x := a0) (n := 1) rfl (by decide)))] 6 E3 fun _ E4 => f_o <| m_s 0 [.box Ec [zm (a0 >>> zc 1), zm a1, zm a2, zm a3] 33, .box Ed (zh (zd 4 0)) 33] E4 Ep fun _ _ E5 Er => ?_
 refine f_e <| ze <| d_s [1,2,3,15] [] E5 fun _ Es => c_t Es ?_
 refine r_c (fun ac wo => Env ac 28 [(1, pt Ec), (2, pt Ed), (3, .int .i64 0)] ∧ Ev w [] wo [.box Ec [zm ((a0 >>> zc 1) ||| (a1 <<< zc 63)), zm a1, zm a2, zm a3] 33, .box Ed (zh (zd 4 0)) 33]) ?_ ?_
 ·
  refine h_s (fun wv => Ev w [] wv [.box Ec [zm (a0 >>> zc 1), zm a1, zm a2, zm a3] 33]) [11] 12 ?_
  have Ee := Er.trans (zO Er.heap)
  refine q_s [0,1,2] [] 9 Es (Ee.pk [0]) fun _ E6 => q_l 0 3 E6 (Ee.pk [0]) fun _ E7 => q_s [4,5,6] [] 5 E7 (Ee.pk [0]) fun _ E8 => q_l 0 7 E8 (Ee.pk [0]) fun _ E9 => ?_
  refine q_s [8,9,10] [(8, g_i .u64 (Go.Dbr.u64_shl (x := a1) (n := 63) rfl (by decide))), (9, g_i .u64 (Go.Dbr.u64_or (x := a0 >>> zc 1) (y := a1 <<< zc 63) rfl rfl))] 1 E9 (Ee.pk [0]) fun _ Ha => q_t 11 ?_
  refine m_s 0 [.box Ec [zm ((a0 >>> zc 1) ||| (a1 <<< zc 63)), zm a1, zm a2, zm a3] 33, .box Ed (zh (zd 4 0)) 33] Ha Ee fun _ _ Hb Hc => ⟨q_y, ?_⟩
  exact h_e ⟨Hb.sb, Hc.pk [0, 1]⟩
 rintro _ _ ⟨Hd, Et⟩
 refine zv <| ze <| d_r [1,2,3] [] Hd fun _ He => ze <| zF <| wp_seq <| d_s [1,2,3,5] [] He fun _ Eu => c_t Eu ?_
 refine wp_skip <| ze <| wp_seq <| wp_block <| wp_seq <| zk <| d_k [1,2,3,8,10] [] 3 Eu fun _ Hf => f_o <| m_l 0 Hf Et fun _ Hg => d_k [1,2,3,12,13] [(4, g_i .u64 (Go.Dbr.u64_shr (x := a1) (n := 1) rfl (by decide)))] 6 Hg fun _ Hh => f_o <| m_s 0 [.box Ec [zm ((a0 >>> zc 1) ||| (a1 <<< zc 63)), zm (a1 >>> zc 1), zm a2, zm a3] 33, .box Ed (zh (zd 4 0)) 33] Hh Et fun _ _ Hi Ew => ?_
 refine f_e <| ze <| d_s [1,2,3,15] [] Hi fun _ Ex => c_t Ex ?_
 refine r_c (fun ac wo => Env ac 28 [(1, pt Ec), (2, pt Ed), (3, .int .i64 1)] ∧ Ev w [] wo [.box Ec [zm ((a0 >>> zc 1) ||| (a1 <<< zc 63)), zm ((a1 >>> zc 1) ||| (a2 <<< zc 63)), zm a2, zm a3] 33, .box Ed (zh (zd 4 0)) 33]) ?_ ?_
 ·
  refine h_s (fun wv => Ev w [] wv [.box Ec [zm ((a0 >>> zc 1) ||| (a1 <<< zc 63)), zm (a1 >>> zc 1), zm a2, zm a3] 33]) [11] 12 ?_
  have Ea := Ew.trans (zO Ew.heap)
  refine q_s [0,1,2] [] 9 Ex (Ea.pk [0]) fun _ Ey => q_l 0 3 Ey (Ea.pk [0]) fun _ Ez => q_s [4,5,6] [] 5 Ez (Ea.pk [0]) fun _ EA => q_l 0 7 EA (Ea.pk [0]) fun _ EB => ?_
  refine q_s [8,9,10] [(8, g_i .u64 (Go.Dbr.u64_shl (x := a2) (n := 63) rfl (by decide))), (9, g_i .u64 (Go.Dbr.u64_or (x := a1 >>> zc 1) (y := a2 <<< zc 63) rfl rfl))] 1 EB (Ea.pk [0]) fun _ EC => q_t 11 ?_
  refine m_s 0 [.box Ec [zm ((a0 >>> zc 1) ||| (a1 <<< zc 63)), zm ((a1 >>> zc 1) ||| (a2 <<< zc 63)), zm a2, zm a3] 33, .box Ed (zh (zd 4 0)) 33] EC Ea fun _ _ ED EE => ⟨q_y, ?_⟩
  exact h_e ⟨ED.sb, EE.pk [0, 1]⟩
 rintro _ _ ⟨EF, Ef⟩
 refine zv <| ze <| d_r [1,2,3] [] EF fun _ EG => ze <| zF <| wp_seq <| d_s [1,2,3,5] [] EG fun _ Eg => c_t Eg ?_
 refine wp_skip <| ze <| wp_seq <| wp_block <| wp_seq <| zk <| d_k [1,2,3,8,10] [] 3 Eg fun _ EH => f_o <| m_l 0 EH Ef fun _ EI => d_k [1,2,3,12,13] [(4, g_i .u64 (Go.Dbr.u64_shr (x := a2) (n := 1) rfl (by decide)))] 6 EI fun _ EJ => f_o <| m_s 0 [.box Ec [zm ((a0 >>> zc 1) ||| (a1 <<< zc 63)), zm ((a1 >>> zc 1) ||| (a2 <<< zc 63)), zm (a2 >>> zc 1), zm a3] 33, .box Ed (zh (zd 4 0)) 33] EJ Ef fun _ _ EK Eh => ?_
 refine f_e <| ze <| d_s [1,2,3,15] [] EK fun _ Ei => c_t Ei ?_
 refine r_c (fun ac wo => Env ac 28 [(1, pt Ec), (2, pt Ed), (3, .int .i64 2)] ∧ Ev w [] wo [.box Ec [zm ((a0 >>> zc 1) ||| (a1 <<< zc 63)), zm ((a1 >>> zc 1) ||| (a2 <<< zc 63)), zm ((a2 >>> zc 1) ||| (a3 <<< zc 63)), zm a3] 33, .box Ed (zh (zd 4 0)) 33]) ?_ ?_
 ·
  refine h_s (fun wv => Ev w [] wv [.box Ec [zm ((a0 >>> zc 1) ||| (a1 <<< zc 63)), zm ((a1 >>> zc 1) ||| (a2 <<< zc 63)), zm (a2 >>> zc 1), zm a3] 33]) [11] 12 ?_
  have Eb := Eh.trans (zO Eh.heap)
  refine q_s [0,1,2] [] 9 Ei (Eb.pk [0]) fun _ EL => q_l 0 3 EL (Eb.pk [0]) fun _ EM => q_s [4,5,6] [] 5 EM (Eb.pk [0]) fun _ EN => q_l 0 7 EN (Eb.pk [0]) fun _ EO => ?_
  refine q_s [8,9,10] [(8, g_i .u64 (Go.Dbr.u64_shl (x := a3) (n := 63) rfl (by decide))), (9, g_i .u64 (Go.Dbr.u64_or (x := a2 >>> zc 1) (y := a3 <<< zc 63) rfl rfl))] 1 EO (Eb.pk [0]) fun _ EP => q_t 11 ?_
  refine m_s 0 [.box Ec [zm ((a0 >>> zc 1) ||| (a1 <<< zc 63)), zm ((a1 >>> zc 1) ||| (a2 <<< zc 63)), zm ((a2 >>> zc 1) ||| (a3 <<< zc 63)), zm a3] 33, .box Ed (zh (zd 4 0)) 33] EP Eb fun _ _ EQ ER => ⟨q_y, ?_⟩
  exact h_e ⟨EQ.sb, ER.pk [0, 1]⟩
 rintro _ _ ⟨ES, Ej⟩
 refine zv <| ze <| d_r [1,2,3] [] ES fun _ ET => ze <| zF <| wp_seq <| d_s [1,2,3,5] [] ET fun _ Ek => c_t Ek ?_
 refine wp_skip <| ze <| wp_seq <| wp_block <| wp_seq <| zk <| d_k [1,2,3,8,10] [] 3 Ek fun _ EU => f_o <| m_l 0 EU Ej fun _ EV => d_k [1,2,3,12,13] [(4, g_i .u64 (Go.Dbr.u64_shr (x := a3) (n := 1) rfl (by decide)))] 6 EV fun _ EW => f_o <| m_s 0 [.box Ec [zm ((a0 >>> zc 1) ||| (a1 <<< zc 63)), zm ((a1 >>> zc 1) ||| (a2 <<< zc 63)), zm ((a2 >>> zc 1) ||| (a3 <<< zc 63)), zm (a3 >>> zc 1)] 33, .box Ed (zh (zd 4 0)) 33] EW Ej fun _ _ EX El => ?_
 refine f_e <| ze <| d_s [1,2,3,15] [] EX fun _ Em => c_f Em ?_
 refine wp_skip <| zv <| ze <| d_r [1,2,3] [] Em fun _ EY => ze <| zF <| wp_seq <| d_s [1,2,3,5] [] EY fun _ En => c_f En ?_
 refine wp_exit <| zy <| zy <| zL <| ze <| wp_seq <| zk <| f_o <| m_a 0 0 4 [zm ((a0 >>> zc 1) ||| (a1 <<< zc 63)), zm ((a1 >>> zc 1) ||| (a2 <<< zc 63)), zm ((a2 >>> zc 1) ||| (a3 <<< zc 63)), zm (a3 >>> zc 1)] En El rfl rfl rfl fun _ EZ => f_o <| zQ 1 4 [zm ((a0 >>> zc 1) ||| (a1 <<< zc 63)), zm ((a1 >>> zc 1) ||| (a2 <<< zc 63)), zm ((a2 >>> zc 1) ||| (a3 <<< zc 63)), zm (a3 >>> zc 1)] _ EZ El rfl rfl (zf (zi)) (one_all (by kernel_rfl)) rfl fun _ _ E0 Eo => f_e <| ze <| wp_ret <| z9 (v := .agg #[zm ((a0 >>> zc 1) ||| (a1 <<< zc 63)), zm ((a1 >>> zc 1) ||| (a2 <<< zc 63)), zm ((a2 >>> zc 1) ||| (a3 <<< zc 63)), zm (a3 >>> zc 1)]) (t := 2) (T := 33) (ad := ⟨Ed, 0, none⟩) E0 (by kernel_rfl) (by kernel_rfl) (zB (t := 33) (k := 1) (off := 0) (m := 4) (xs := [zm ((a0 >>> zc 1) ||| (a1 <<< zc 63)), zm ((a1 >>> zc 1) ||| (a2 <<< zc 63)), zm ((a2 >>> zc 1) ||| (a3 <<< zc 63)), zm (a3 >>> zc 1)]) Eo rfl rfl rfl (by kernel_rfl) (by kernel_rfl)) ?_
 have e : [(a0 >>> zc 1) ||| (a1 <<< zc 63), (a1 >>> zc 1) ||| (a2 <<< zc 63), (a2 >>> zc 1) ||| (a3 <<< zc 63), a3 >>> zc 1] = nd (nv [a0, a1, a2, a3] / 2) := shl_1 a0 a1 a2 a3
 exact ⟨congrArg (fun l : List UInt64 => Ending.returned (Value.agg (zh l).toArray)) e, Eo.pk []⟩
theorem half_go (w : World) (a : List UInt64) (ha : zb a = 4) : Calls Tryz.prog 109 #[.agg (zg (zh a))] w fun e w' => e = .returned (.agg (zg (zh (nd (nv a / 2))))) ∧ Ev w [] w' [] := by
  match a, ha with
  | [a0, a1, a2, a3], _ => exact half4 w a0 a1 a2 a3
def rq (f : Int) (A : Nat) : Nat := zJ f A (if f = 2 then (mF 2 + 1) / 4 else (mF 1 + 3) / 8)
def ri : Nat := zJ 1 2 ((mF 1 - 1) / 4)
def rs (f : Int) (A : Nat) : Nat := if f = 2 ∨ zr f (rq f A) (rq f A) = zr f A 1 then rq f A else zr f (rq f A) ri
def rootOk (f : Int) (A : Nat) : Bool := decide ((f = 1 ∨ f = 2) ∧ zr f (rs f A) (rs f A) = zr f A 1)
def rootN (f : Int) (A : Nat) : Nat := if rootOk f A = true then (if rs f A % 2 = 1 then z7 f 0 (rs f A) else rs f A) else 0
theorem nd_inj {x y : Nat} (hx : x < zU) (hy : y < zU) : nd x = nd y ↔ x = y := by
  constructor
  · intro h
    have := congrArg nv h
    rwa [Qw hx, Qw hy] at this
  · intro h
    rw [h]
theorem rq_lt {f : Int} (hf : f = 1 ∨ f = 2 ∨ f = 3 ∨ f = 4) (A : Nat) : rq f A < zU := powM_lt hf _ _
theorem rs_lt {f : Int} (hf : f = 1 ∨ f = 2 ∨ f = 3 ∨ f = 4) (A : Nat) : rs f A < zU := by
  unfold rs
  split
  · exact rq_lt hf A
  · exact mulM_lt hf _ _
theorem sq_eq {f : Int} (hf : f = 1 ∨ f = 2 ∨ f = 3 ∨ f = 4) {r A : Nat} (hr : r < zU) : nd (zr f (nv (nd r)) (nv (nd r))) = nd (zr f A (nv [1, 0, 0, 0])) ↔ zr f r r = zr f A 1 := by
  rw [Qw hr, nd_inj (mulM_lt hf _ _) (mulM_lt hf _ _), show nv [1, 0, 0, 0] = 1 from rfl]
theorem h1f : (1 : Int) = 1 ∨ (1 : Int) = 2 ∨ (1 : Int) = 3 ∨ (1 : Int) = 4 := .inl rfl
theorem h2f : (2 : Int) = 1 ∨ (2 : Int) = 2 ∨ (2 : Int) = 3 ∨ (2 : Int) = 4 := .inr (.inl rfl)
theorem rs1_a {A : Nat} (h : nd (zr 1 (nv (nd (rq 1 A))) (nv (nd (rq 1 A)))) = nd (zr 1 A (nv [1, 0, 0, 0]))) : nd (rq 1 A) = nd (rs 1 A) := by
  rw [rs, if_pos (.inr ((sq_eq h1f (rq_lt h1f A)).1 h))]
theorem rs1_b {A e : Nat} (h : ¬ nd (zr 1 (nv (nd (rq 1 A))) (nv (nd (rq 1 A)))) = nd (zr 1 A (nv [1, 0, 0, 0]))) (he : e = (mF 1 - 1) / 4) : nd (zr 1 (nv (nd (rq 1 A))) (nv (nd (zJ 1 (nv [2, 0, 0, 0]) e)))) = nd (rs 1 A) := by
  rw [rs, if_neg (fun q => q.elim (by decide) (fun g => h ((sq_eq h1f (rq_lt h1f A)).2 g))), Qw (rq_lt h1f A), Qw (powM_lt h1f _ _), he]
  rfl
theorem par_nd {r : Nat} (hr : r < zU) : (za (nd r) 0 0 &&& 1).toNat = r % 2 := by
  have e : za (nd r) 0 0 = zc r := rfl
  rw [e, QV, show (1 : UInt64).toNat = 1 from rfl, YH, ofNat_val]
  omega
theorem root_no {f : Int} (hf : f = 1 ∨ f = 2 ∨ f = 3 ∨ f = 4) {A : Nat} (h : ¬ nd (zr f (nv (nd (rs f A))) (nv (nd (rs f A)))) = nd (zr f A (nv [1, 0, 0, 0]))) : rootOk f A = false ∧ rootN f A = 0 := by
  have e : rootOk f A = false := decide_eq_false (fun q => h ((sq_eq hf (rs_lt hf A)).2 q.2))
  exact ⟨e, by rw [rootN, e]; rfl⟩
theorem root_yes {f : Int} (h12 : f = 1 ∨ f = 2) {A : Nat} (h : nd (zr f (nv (nd (rs f A))) (nv (nd (rs f A)))) = nd (zr f A (nv [1, 0, 0, 0]))) : rootOk f A = true := decide_eq_true ⟨h12, (sq_eq (by omega) (rs_lt (by omega) A)).1 h⟩
theorem root_odd {f : Int} (h12 : f = 1 ∨ f = 2) {A : Nat} (h : nd (zr f (nv (nd (rs f A))) (nv (nd (rs f A)))) = nd (zr f A (nv [1, 0, 0, 0]))) (hp : (((za (nd (rs f A)) 0 0 &&& 1).toNat : Nat) : Int) = (1 : Int)) : nd (z7 f 0 (nv (nd (rs f A)))) = nd (rootN f A) := by
  have hr := rs_lt (f := f) (by omega) A
  rw [par_nd hr] at hp
  rw [rootN, if_pos (root_yes h12 h), if_pos (by omega), Qw hr]
theorem root_even {f : Int} (h12 : f = 1 ∨ f = 2) {A : Nat} (h : nd (zr f (nv (nd (rs f A))) (nv (nd (rs f A)))) = nd (zr f A (nv [1, 0, 0, 0]))) (hp : ¬ (((za (nd (rs f A)) 0 0 &&& 1).toNat : Nat) : Int) = (1 : Int)) : nd (rs f A) = nd (rootN f A) := by
  rw [par_nd (rs_lt (f := f) (by omega) A)] at hp
  rw [rootN, if_pos (root_yes h12 h), if_neg (by omega)]
theorem root_z {f : Int} {A : Nat} (h : rootOk f A = false ∧ rootN f A = 0) : [(0 : UInt64), 0, 0, 0] = nd (rootN f A) := by rw [h.2]; rfl
theorem root1_go (w : World) (a : List UInt64) (ha : zb a = 4) : Calls Tryz.prog 67 #[.int .i64 1, .agg (zg (zh a))] w fun e w' => e = .returned (.tuple #[.agg (zg (zh (nd (rootN 1 (nv a))))), .bool (rootOk 1 (nv a))]) ∧ Ev w [] w' [] := by
 refine d_0 [(0, .int .i64 1), (1, .agg (zg (zh a)))] 82 Go.Proofs.Tryz.func67 Go.Proofs.Tryz.ntmps67 (Heap.nil _) fun H7 H8 H9 => wp_seq <| zk <| f_o <| m_m 33 (zh a) H8 H9 fun _ _ Em aa ab => f_o <| m_z 33 (zh (zd 4 0)) aa ab fun _ _ Ef ae HF => d_e [0,3,4,5] [] ae fun _ HG => ?_
 refine ze <| wp_seq <| zk <| d_k [0,3,4,5,13] [] 1 HG fun _ HH => f_o <| c_p HH HF (modulus_go _ 1) fun _ _ HI HJ => f_o <| m_z 33 (zh (zd 4 0)) HI HJ fun _ _ Ed HK HL => f_o <| zQ 2 4 (zh (nd (mF 1))) _ HK HL rfl (zf (zl _ _)) (zf (zi)) (zt _) rfl fun _ _ HM EI => ?_
 refine f_e <| ze <| wp_seq <| zk <| d_k [0,3,4,5,6,15] [] 1 HM fun _ HN => f_o <| Zp 0 4 (zh a) HN EI rfl (zf ha) fun _ HO => d_k [0,3,4,5,6,15,16,17] [] 3 HO fun _ HP => f_o <| c_p HP EI (hM1 _ a ([1, 0, 0, 0] : List UInt64) ha (show zb ([1, 0, 0, 0] : List UInt64) = 4 from rfl)) fun _ _ HQ HR => ?_
 refine f_o <| m_z 33 (zh (zd 4 0)) HQ HR fun _ _ Eb HS HT => f_o <| zQ 3 4 (zh (nd (zr 1 (nv a) (nv ([1, 0, 0, 0] : List UInt64))))) [.box Em (zh a) 33, .box Ef (zh (zd 4 0)) 33, .box Ed (zh (nd (mF 1))) 33, .box Eb (zh (nd (zr 1 (nv a) (nv ([1, 0, 0, 0] : List UInt64))))) 33] HS HT rfl (zf (zl _ _)) (zf (zi)) (zt _) rfl fun _ _ HU HV => f_e <| ze <| wp_seq <| zk <| f_o <| m_z 33 (zh (zd 4 0)) HU HV fun _ _ Ea HW EJ => f_e <| ze <| wp_seq <| wp_seq <| d_r [0,3,4,5,6,7,8,19] [] HW fun _ HX => ?_
 refine ze <| wp_block <| wp_seq <| d_r [0,3,4,5,6,7,8,19,21] [] HX fun _ EK => ze <| c_f EK ?_
 refine wp_seq <| d_r [0,3,4,5,6,7,8,19,34] [] EK fun _ EL => ze <| c_t EL ?_
 refine wp_seq <| zk <| f_o <| Zp 2 4 (zh (nd (mF 1))) EL EJ rfl (zf (zl _ _)) fun _ HY => d_k [0,3,4,5,6,7,8,19,37,38] [] 2 HY fun _ HZ => f_o <| c_p HZ EJ (plus_go _ (nd (mF 1)) ([3, 0, 0, 0] : List UInt64) (zl _ _) (show zb ([3, 0, 0, 0] : List UInt64) = 4 from rfl)) fun _ _ H0 H1 => d_k [0,3,4,5,6,7,8,19,40,41] [] 6 H0 fun _ H2 => ?_
 refine f_o <| m_z 33 (zh (zd 4 0)) H2 H1 fun _ _ Ec H3 H4 => f_o <| zQ 5 4 (zh (nd (nv (nd (mF 1)) + nv ([3, 0, 0, 0] : List UInt64)))) _ H3 H4 rfl (zf (zl _ _)) (zf (zi)) (zt _) rfl fun _ _ H5 EM => d_e [0,3,4,5,6,7,8,11,19] [] H5 fun _ H6 => ?_
 refine ze <| wp_seq <| r_c (fun ac wo => Env ac 82 [(0, .int .i64 1), (3, pt Em), (4, pt Ef), (5, .bool false), (6, pt Ed), (7, pt Eb), (8, pt Ea), (11, pt Ec), (19, .int .i64 1)] ∧ Ev w [] wo [.box Em (zh a) 33, .box Ef (zh (zd 4 0)) 33, .box Ed (zh (nd (mF 1))) 33, .box Eb (zh (nd (zr 1 (nv a) (nv ([1, 0, 0, 0] : List UInt64))))) 33, .box Ea (zh (nd (zJ 1 (nv a) (nv (nd (nv (nd (nv (nd (mF 1)) + nv ([3, 0, 0, 0] : List UInt64))) / 8)))))) 33, .box Ec (zh (nd (nv (nd (mF 1)) + nv ([3, 0, 0, 0] : List UInt64)))) 33]) ?_ ?_
 ·
  refine h_s (fun wv => Ev w [] wv [.box Em (zh a) 33, .box Ec (zh (nd (nv (nd (mF 1)) + nv ([3, 0, 0, 0] : List UInt64)))) 33]) [] 6 ?_
  have Et := EM.trans (zO EM.heap)
  refine q_s [0] [] 5 H6 (Et.pk [0, 5]) fun _ EN => q_r 1 (s := Instr.loadAt 33 (pt Em)) (v := .agg (zg (zh a))) EN (fun w hS => zM (m := 4) (cs := zh a) (zf ha) (by kernel_rfl) (by kernel_rfl) (hS.heap.cells (k := 0) (off := 0) (m := 4) rfl (zq (zf ha)))) (Et.pk [0, 5]) fun _ EO => q_r 2 (s := Instr.loadAt 33 (pt Ec)) (v := .agg (zg (zh (nd (nv (nd (mF 1)) + nv ([3, 0, 0, 0] : List UInt64)))))) EO (fun w hS => zM (m := 4) (cs := zh (nd (nv (nd (mF 1)) + nv ([3, 0, 0, 0] : List UInt64)))) (zf (zl _ _)) (by kernel_rfl) (by kernel_rfl) (hS.heap.cells (k := 1) (off := 0) (m := 4) rfl (zq (zf (zl _ _))))) (Et.pk [0, 5]) fun _ EP => q_t 3 ?_
  refine c_p EP Et (shift3_go _ (nd (nv (nd (mF 1)) + nv ([3, 0, 0, 0] : List UInt64))) (zl _ _)) fun _ _ EQ Eu => ⟨fun _ => Eu.pk [0, 5], ?_⟩
  refine q_t 4 ?_
  refine c_p EQ Eu (exp_go _ 1 h1f hM1 a (nd (nv (nd (nv (nd (mF 1)) + nv ([3, 0, 0, 0] : List UInt64))) / 8)) ha (zl _ _)) fun _ _ ER Ew => ⟨fun _ => Ew.pk [0, 5], ?_⟩
  refine q_t 5 ?_
  refine zQ 4 4 (zh (nd (zJ 1 (nv a) (nv (nd (nv (nd (nv (nd (mF 1)) + nv ([3, 0, 0, 0] : List UInt64))) / 8)))))) [.box Em (zh a) 33, .box Ef (zh (zd 4 0)) 33, .box Ed (zh (nd (mF 1))) 33, .box Eb (zh (nd (zr 1 (nv a) (nv ([1, 0, 0, 0] : List UInt64))))) 33, .box Ea (zh (nd (zJ 1 (nv a) (nv (nd (nv (nd (nv (nd (mF 1)) + nv ([3, 0, 0, 0] : List UInt64))) / 8)))))) 33, .box Ec (zh (nd (nv (nd (mF 1)) + nv ([3, 0, 0, 0] : List UInt64)))) 33] ER Ew rfl (zf (zl _ _)) (zf (zi)) (zt _) rfl fun _ _ ES Ex => ⟨fun _ => Ex.pk [0, 5], ?_⟩
  exact h_e ⟨ES.sb, Ex.pk [0, 1, 2, 3, 4, 5]⟩
 rintro _ _ ⟨ET, En⟩
 refine ze <| wp_seq ?_
 rw [show (nd (zJ 1 (nv a) (nv (nd (nv (nd (nv (nd (mF 1)) + nv ([3, 0, 0, 0] : List UInt64))) / 8))))) = (nd (rq 1 (nv a))) from (congrArg (fun e => nd (zJ 1 (nv a) e)) (show _ = (mF 1 + 3) / 8 by decide +kernel))] at En
 refine r_c (fun ac wo => Env ac 82 [(0, .int .i64 1), (3, pt Em), (4, pt Ef), (5, .bool false), (6, pt Ed), (7, pt Eb), (8, pt Ea), (11, pt Ec), (19, .int .i64 1), (52, .bool (!((nd (zr 1 (nv (nd (rq 1 (nv a)))) (nv (nd (rq 1 (nv a)))))) == (nd (zr 1 (nv a) (nv ([1, 0, 0, 0] : List UInt64)))))))] ∧ Ev w [] wo [.box Em (zh a) 33, .box Ef (zh (zd 4 0)) 33, .box Ed (zh (nd (mF 1))) 33, .box Eb (zh (nd (zr 1 (nv a) (nv ([1, 0, 0, 0] : List UInt64))))) 33, .box Ea (zh (nd (rq 1 (nv a)))) 33, .box Ec (zh (nd (nv (nd (mF 1)) + nv ([3, 0, 0, 0] : List UInt64)))) 33]) ?_ ?_
 ·
  refine h_s (fun wv => Ev w [] wv [.box Eb (zh (nd (zr 1 (nv a) (nv ([1, 0, 0, 0] : List UInt64))))) 33, .box Ea (zh (nd (rq 1 (nv a)))) 33]) [] 6 ?_
  have Eg := En.trans (zO En.heap)
  refine q_s [0] [] 5 ET (Eg.pk [3, 4]) fun _ EU => q_r 1 (s := Instr.loadAt 33 (pt Ea)) (v := .agg (zg (zh (nd (rq 1 (nv a)))))) EU (fun w hS => zM (m := 4) (cs := zh (nd (rq 1 (nv a)))) (zf (zl _ _)) (by kernel_rfl) (by kernel_rfl) (hS.heap.cells (k := 1) (off := 0) (m := 4) rfl (zq (zf (zl _ _))))) (Eg.pk [3, 4]) fun _ EV => q_r 2 (s := Instr.loadAt 33 (pt Ea)) (v := .agg (zg (zh (nd (rq 1 (nv a)))))) EV (fun w hS => zM (m := 4) (cs := zh (nd (rq 1 (nv a)))) (zf (zl _ _)) (by kernel_rfl) (by kernel_rfl) (hS.heap.cells (k := 1) (off := 0) (m := 4) rfl (zq (zf (zl _ _))))) (Eg.pk [3, 4]) fun _ EW => q_r 4 (s := Instr.loadAt 33 (pt Eb)) (v := .agg (zg (zh (nd (zr 1 (nv a) (nv ([1, 0, 0, 0] : List UInt64))))))) EW (fun w hS => zM (m := 4) (cs := zh (nd (zr 1 (nv a) (nv ([1, 0, 0, 0] : List UInt64))))) (zf (zl _ _)) (by kernel_rfl) (by kernel_rfl) (hS.heap.cells (k := 0) (off := 0) (m := 4) rfl (zq (zf (zl _ _))))) (Eg.pk [3, 4]) fun _ EX => ?_
  refine q_t 3 ?_
  refine c_p EX Eg (hM1 _ (nd (rq 1 (nv a))) (nd (rq 1 (nv a))) (zl _ _) (zl _ _)) fun _ _ EY Eo => ⟨fun _ => Eo.pk [3, 4], ?_⟩
  refine q_f 5 (s := eqOp .neq 33 (.tmp 50) (.tmp 51) (.agg (zg (zh (nd (zr 1 (nv (nd (rq 1 (nv a)))) (nv (nd (rq 1 (nv a))))))))) (.agg (zg (zh (nd (zr 1 (nv a) (nv ([1, 0, 0, 0] : List UInt64)))))))) (v := .bool (!((nd (zr 1 (nv (nd (rq 1 (nv a)))) (nv (nd (rq 1 (nv a)))))) == (nd (zr 1 (nv a) (nv ([1, 0, 0, 0] : List UInt64))))))) EY (fun _ => Go.Dbr.u64s_neop (a := (.tmp 50)) (b := (.tmp 51)) (e := 31) (m := 4) (by kernel_rfl) (by kernel_rfl) (by kernel_rfl) (by kernel_rfl) (by kernel_rfl) (zl _ _) (zl _ _) _) (fun _ => Eo.pk [3, 4]) fun _ EZ => ?_
  exact h_e ⟨EZ.sb, Eo.pk [0, 1, 2, 3, 4, 5]⟩
 rintro _ _ ⟨Ep, El⟩
 refine ze <| QH (F := fun ac wo => Env ac 82 [(0, .int .i64 1), (3, pt Em), (4, pt Ef), (5, .bool false), (6, pt Ed), (7, pt Eb), (8, pt Ea), (11, pt Ec), (19, .int .i64 1)] ∧ Ev w [] wo [.box Ef (zh (zd 4 0)) 33, .box Eb (zh (nd (zr 1 (nv a) (nv ([1, 0, 0, 0] : List UInt64))))) 33, .box Ea (zh (nd (rs 1 (nv a)))) 33]) ?_ ?_
 ·
  refine cond_at Ep (t := !((nd (zr 1 (nv (nd (rq 1 (nv a)))) (nv (nd (rq 1 (nv a)))))) == (nd (zr 1 (nv a) (nv ([1, 0, 0, 0] : List UInt64)))))) (by kernel_rfl) (fun Eh => ?_) (fun Eh => ?_)
  ·
   replace Eh : ¬ ((nd (zr 1 (nv (nd (rq 1 (nv a)))) (nv (nd (rq 1 (nv a)))))) = (nd (zr 1 (nv a) (nv ([1, 0, 0, 0] : List UInt64))))) := by simpa using Eh
   refine wp_seq <| zk <| f_o <| Zp 2 4 (zh (nd (mF 1))) Ep El rfl (zf (zl _ _)) fun _ E0 => d_k [0,3,4,5,6,7,8,11,19,54,55] [] 2 E0 fun _ E1 => f_o <| c_p E1 El (minus_go _ (nd (mF 1)) ([1, 0, 0, 0] : List UInt64) (zl _ _) (show zb ([1, 0, 0, 0] : List UInt64) = 4 from rfl)) fun _ _ E2 E3 => d_k [0,3,4,5,6,7,8,11,19,57] [] 6 E2 fun _ E4 => ?_
   refine f_o <| zQ 5 4 (zh (nd (nv (nd (mF 1)) + zU - nv ([1, 0, 0, 0] : List UInt64)))) _ E4 E3 rfl (zf (zl _ _)) (zf (zl _ _)) (zt _) rfl fun _ _ E5 Ey => ?_
   refine f_e <| ze <| r_c (fun ac wo => Env ac 82 [(0, .int .i64 1), (3, pt Em), (4, pt Ef), (5, .bool false), (6, pt Ed), (7, pt Eb), (8, pt Ea), (11, pt Ec), (19, .int .i64 1)] ∧ Ev w [] wo [.box Em (zh a) 33, .box Ef (zh (zd 4 0)) 33, .box Ed (zh (nd (mF 1))) 33, .box Eb (zh (nd (zr 1 (nv a) (nv ([1, 0, 0, 0] : List UInt64))))) 33, .box Ea (zh (nd (zr 1 (nv (nd (rq 1 (nv a)))) (nv (nd (zJ 1 (nv ([2, 0, 0, 0] : List UInt64)) (nv (nd (nv (nd (nv (nd (mF 1)) + zU - nv ([1, 0, 0, 0] : List UInt64))) / 4))))))))) 33, .box Ec (zh (nd (nv (nd (mF 1)) + zU - nv ([1, 0, 0, 0] : List UInt64)))) 33]) ?_ ?_
   ·
    refine h_s (fun wv => Ev w [] wv [.box Ea (zh (nd (rq 1 (nv a)))) 33, .box Ec (zh (nd (nv (nd (mF 1)) + zU - nv ([1, 0, 0, 0] : List UInt64)))) 33]) [8] 9 ?_
    have Ei := Ey.trans (zO Ey.heap)
    refine q_s [0] [] 8 E5 (Ei.pk [4, 5]) fun _ E6 => q_r 1 (s := Instr.loadAt 33 (pt Ea)) (v := .agg (zg (zh (nd (rq 1 (nv a)))))) E6 (fun w hS => zM (m := 4) (cs := zh (nd (rq 1 (nv a)))) (zf (zl _ _)) (by kernel_rfl) (by kernel_rfl) (hS.heap.cells (k := 0) (off := 0) (m := 4) rfl (zq (zf (zl _ _))))) (Ei.pk [4, 5]) fun _ E7 => q_s [2,3] [] 5 E7 (Ei.pk [4, 5]) fun _ E8 => q_r 4 (s := Instr.loadAt 33 (pt Ec)) (v := .agg (zg (zh (nd (nv (nd (mF 1)) + zU - nv ([1, 0, 0, 0] : List UInt64)))))) E8 (fun w hS => zM (m := 4) (cs := zh (nd (nv (nd (mF 1)) + zU - nv ([1, 0, 0, 0] : List UInt64)))) (zf (zl _ _)) (by kernel_rfl) (by kernel_rfl) (hS.heap.cells (k := 1) (off := 0) (m := 4) rfl (zq (zf (zl _ _))))) (Ei.pk [4, 5]) fun _ E9 => ?_
    refine q_t 5 ?_
    refine c_p E9 Ei (shift2_go _ (nd (nv (nd (mF 1)) + zU - nv ([1, 0, 0, 0] : List UInt64))) (zl _ _)) fun _ _ Ha Ez => ⟨fun _ => Ez.pk [4, 5], ?_⟩
    refine q_t 6 ?_
    refine c_p Ha Ez (exp_go _ 1 h1f hM1 ([2, 0, 0, 0] : List UInt64) (nd (nv (nd (nv (nd (mF 1)) + zU - nv ([1, 0, 0, 0] : List UInt64))) / 4)) (show zb ([2, 0, 0, 0] : List UInt64) = 4 from rfl) (zl _ _)) fun _ _ Hb EA => ⟨fun _ => EA.pk [4, 5], ?_⟩
    refine q_t 7 ?_
    refine c_p Hb EA (hM1 _ (nd (rq 1 (nv a))) (nd (zJ 1 (nv ([2, 0, 0, 0] : List UInt64)) (nv (nd (nv (nd (nv (nd (mF 1)) + zU - nv ([1, 0, 0, 0] : List UInt64))) / 4))))) (zl _ _) (zl _ _)) fun _ _ Hc EB => ⟨fun _ => EB.pk [4, 5], ?_⟩
    refine q_t 8 ?_
    refine zQ 4 4 (zh (nd (zr 1 (nv (nd (rq 1 (nv a)))) (nv (nd (zJ 1 (nv ([2, 0, 0, 0] : List UInt64)) (nv (nd (nv (nd (nv (nd (mF 1)) + zU - nv ([1, 0, 0, 0] : List UInt64))) / 4))))))))) [.box Em (zh a) 33, .box Ef (zh (zd 4 0)) 33, .box Ed (zh (nd (mF 1))) 33, .box Eb (zh (nd (zr 1 (nv a) (nv ([1, 0, 0, 0] : List UInt64))))) 33, .box Ea (zh (nd (zr 1 (nv (nd (rq 1 (nv a)))) (nv (nd (zJ 1 (nv ([2, 0, 0, 0] : List UInt64)) (nv (nd (nv (nd (nv (nd (mF 1)) + zU - nv ([1, 0, 0, 0] : List UInt64))) / 4))))))))) 33, .box Ec (zh (nd (nv (nd (mF 1)) + zU - nv ([1, 0, 0, 0] : List UInt64)))) 33] Hc EB rfl (zf (zl _ _)) (zf (zl _ _)) (zt _) rfl fun _ _ Hd He => ⟨q_y, ?_⟩
    exact h_e ⟨Hd.sb, He.pk [0, 1, 2, 3, 4, 5]⟩
   rintro _ _ ⟨Hf, EC⟩
   rw [show (nd (zr 1 (nv (nd (rq 1 (nv a)))) (nv (nd (zJ 1 (nv ([2, 0, 0, 0] : List UInt64)) (nv (nd (nv (nd (nv (nd (mF 1)) + zU - nv ([1, 0, 0, 0] : List UInt64))) / 4)))))))) = (nd (rs 1 (nv a))) from (rs1_b (by assumption) (by decide +kernel))] at EC
   exact ⟨rfl, ⟨Hf.sb, EC.pk [1, 3, 4]⟩⟩
  replace Eh : (nd (zr 1 (nv (nd (rq 1 (nv a)))) (nv (nd (rq 1 (nv a)))))) = (nd (zr 1 (nv a) (nv ([1, 0, 0, 0] : List UInt64)))) := by simpa using Eh
  refine wp_skip ?_
  rw [show (nd (rq 1 (nv a))) = (nd (rs 1 (nv a))) from (rs1_a (by assumption))] at El
  exact ⟨rfl, ⟨Ep.sb, El.pk [1, 3, 4]⟩⟩
 rintro _ _ ⟨Hg, ED⟩
 refine zv <| ze <| wp_seq <| wp_seq <| r_c (fun ac wo => Env ac 82 [(0, .int .i64 1), (3, pt Em), (4, pt Ef), (5, .bool false), (6, pt Ed), (7, pt Eb), (8, pt Ea), (11, pt Ec), (19, .int .i64 1), (72, .bool (!((nd (zr 1 (nv (nd (rs 1 (nv a)))) (nv (nd (rs 1 (nv a)))))) == (nd (zr 1 (nv a) (nv ([1, 0, 0, 0] : List UInt64)))))))] ∧ Ev w [] wo [.box Ef (zh (zd 4 0)) 33, .box Eb (zh (nd (zr 1 (nv a) (nv ([1, 0, 0, 0] : List UInt64))))) 33, .box Ea (zh (nd (rs 1 (nv a)))) 33]) ?_ ?_
 ·
  refine h_s (fun wv => Ev w [] wv [.box Eb (zh (nd (zr 1 (nv a) (nv ([1, 0, 0, 0] : List UInt64))))) 33, .box Ea (zh (nd (rs 1 (nv a)))) 33]) [] 6 ?_
  have Ej := ED.trans (zO ED.heap)
  refine q_s [0] [] 5 Hg (Ej.pk [1, 2]) fun _ Hh => q_r 1 (s := Instr.loadAt 33 (pt Ea)) (v := .agg (zg (zh (nd (rs 1 (nv a)))))) Hh (fun w hS => zM (m := 4) (cs := zh (nd (rs 1 (nv a)))) (zf (zl _ _)) (by kernel_rfl) (by kernel_rfl) (hS.heap.cells (k := 1) (off := 0) (m := 4) rfl (zq (zf (zl _ _))))) (Ej.pk [1, 2]) fun _ Hi => q_r 2 (s := Instr.loadAt 33 (pt Ea)) (v := .agg (zg (zh (nd (rs 1 (nv a)))))) Hi (fun w hS => zM (m := 4) (cs := zh (nd (rs 1 (nv a)))) (zf (zl _ _)) (by kernel_rfl) (by kernel_rfl) (hS.heap.cells (k := 1) (off := 0) (m := 4) rfl (zq (zf (zl _ _))))) (Ej.pk [1, 2]) fun _ Hj => q_r 4 (s := Instr.loadAt 33 (pt Eb)) (v := .agg (zg (zh (nd (zr 1 (nv a) (nv ([1, 0, 0, 0] : List UInt64))))))) Hj (fun w hS => zM (m := 4) (cs := zh (nd (zr 1 (nv a) (nv ([1, 0, 0, 0] : List UInt64))))) (zf (zl _ _)) (by kernel_rfl) (by kernel_rfl) (hS.heap.cells (k := 0) (off := 0) (m := 4) rfl (zq (zf (zl _ _))))) (Ej.pk [1, 2]) fun _ Hk => ?_
  refine q_t 3 ?_
  refine c_p Hk Ej (hM1 _ (nd (rs 1 (nv a))) (nd (rs 1 (nv a))) (zl _ _) (zl _ _)) fun _ _ Hl Eq => ⟨fun _ => Eq.pk [1, 2], ?_⟩
  refine q_f 5 (s := eqOp .neq 33 (.tmp 70) (.tmp 71) (.agg (zg (zh (nd (zr 1 (nv (nd (rs 1 (nv a)))) (nv (nd (rs 1 (nv a))))))))) (.agg (zg (zh (nd (zr 1 (nv a) (nv ([1, 0, 0, 0] : List UInt64)))))))) (v := .bool (!((nd (zr 1 (nv (nd (rs 1 (nv a)))) (nv (nd (rs 1 (nv a)))))) == (nd (zr 1 (nv a) (nv ([1, 0, 0, 0] : List UInt64))))))) Hl (fun _ => Go.Dbr.u64s_neop (a := (.tmp 70)) (b := (.tmp 71)) (e := 31) (m := 4) (by kernel_rfl) (by kernel_rfl) (by kernel_rfl) (by kernel_rfl) (by kernel_rfl) (zl _ _) (zl _ _) _) (fun _ => Eq.pk [1, 2]) fun _ Hm => ?_
  exact h_e ⟨Hm.sb, Eq.pk [0, 1, 2]⟩
 rintro _ _ ⟨Er, Ee⟩
 refine ze <| cond_at Er (t := !((nd (zr 1 (nv (nd (rs 1 (nv a)))) (nv (nd (rs 1 (nv a)))))) == (nd (zr 1 (nv a) (nv ([1, 0, 0, 0] : List UInt64)))))) (by kernel_rfl) (fun Ek => ?_) (fun Ek => ?_)
 ·
  replace Ek : ¬ ((nd (zr 1 (nv (nd (rs 1 (nv a)))) (nv (nd (rs 1 (nv a)))))) = (nd (zr 1 (nv a) (nv ([1, 0, 0, 0] : List UInt64))))) := by simpa using Ek
  refine wp_seq <| zk <| d_k [0,3,4,5,6,7,8,11,19,73] [] 1 Er fun _ Hn => f_o <| zQ 0 4 (zh ([0, 0, 0, 0] : List UInt64)) _ Hn Ee rfl (zf (show zb ([0, 0, 0, 0] : List UInt64) = 4 from rfl)) (zf (zi)) (zt _) rfl fun _ _ Ho EE => d_e [0,3,4,5,6,7,8,11,19] [] Ho fun _ Hp => ze <| wp_ret <| ZE <| Z6 (v := .agg (zg (zh ([0, 0, 0, 0] : List UInt64)))) (x := .bool false) (t := 4) (T := 33) (ad := ⟨Ef, 0, none⟩) (u := 5) Hp (by kernel_rfl) (by kernel_rfl) (zB (t := 33) (k := 0) (off := 0) (m := 4) (xs := zh ([0, 0, 0, 0] : List UInt64)) EE rfl (zq (zf (show zb ([0, 0, 0, 0] : List UInt64) = 4 from rfl))) (zf (show zb ([0, 0, 0, 0] : List UInt64) = 4 from rfl)) (by kernel_rfl) (by kernel_rfl)) (by kernel_rfl) ?_
  have eb := (root_no (f := 1) h1f (by assumption)).1
  have e : ([0, 0, 0, 0] : List UInt64) = nd (rootN 1 (nv a)) := root_z (root_no (f := 1) h1f (by assumption))
  rw [eb]
  exact ⟨congrArg (fun l : List UInt64 => Ending.returned (.tuple #[Value.agg (zh l).toArray, .bool false])) e, EE.pk []⟩
 replace Ek : (nd (zr 1 (nv (nd (rs 1 (nv a)))) (nv (nd (rs 1 (nv a)))))) = (nd (zr 1 (nv a) (nv ([1, 0, 0, 0] : List UInt64)))) := by simpa using Ek
 refine wp_skip <| ze <| wp_seq <| wp_seq <| zk <| d_k [0,3,4,5,6,7,8,11,19,74] [] 1 Er fun _ Hq => f_o ?_
 have Hr : 0 < zb (nd (rs 1 (nv a))) := by rw [(zl _ _)]; omega
 refine m_v 2 0 (zm (za (nd (rs 1 (nv a))) 0 0)) Hq Ee rfl (zx Hr) fun _ Hs => d_e [0,3,4,5,6,7,8,11,19,77] [(2, g_i .u64 (Go.Dbr.u64_and (x := za (nd (rs 1 (nv a))) 0 0) (y := (1 : UInt64)) rfl rfl))] Hs fun _ Es => ?_
 refine ze <| c_e ((zw ((za (nd (rs 1 (nv a))) 0 0) &&& (1 : UInt64)) : Nat) : Int) (1 : Int) Es (fun Ht => ?_) (fun Ht => ?_)
 ·
  refine zk <| d_k [0,3,4,5,6,7,8,11,19,78] [] 1 Es fun _ Hu => f_o <| Zp 2 4 (zh (nd (rs 1 (nv a)))) Hu Ee rfl (zf (zl _ _)) fun _ Hv => f_o <| c_p Hv Ee (neg_go _ 1 h1f (nd (rs 1 (nv a))) (zl _ _)) fun _ _ Hw Hx => f_o <| zQ 2 4 (zh (nd (z7 1 0 (nv (nd (rs 1 (nv a))))))) [.box Ef (zh (zd 4 0)) 33, .box Eb (zh (nd (zr 1 (nv a) (nv ([1, 0, 0, 0] : List UInt64))))) 33, .box Ea (zh (nd (z7 1 0 (nv (nd (rs 1 (nv a))))))) 33] Hw Hx rfl (zf (zl _ _)) (zf (zl _ _)) (zt _) rfl fun _ _ Hy EF => ?_
  refine f_e <| ze <| wp_seq <| zk <| f_o <| Zp 2 4 (zh (nd (z7 1 0 (nv (nd (rs 1 (nv a))))))) Hy EF rfl (zf (zl _ _)) fun _ Hz => f_o <| zQ 0 4 (zh (nd (z7 1 0 (nv (nd (rs 1 (nv a))))))) _ Hz EF rfl (zf (zl _ _)) (zf (zi)) (zt _) rfl fun _ _ HA EG => d_e [0,3,4,5,6,7,8,11,19] [] HA fun _ HB => ze <| wp_ret <| Z6 (v := .agg (zg (zh (nd (z7 1 0 (nv (nd (rs 1 (nv a))))))))) (x := .bool true) (t := 4) (T := 33) (ad := ⟨Ef, 0, none⟩) (u := 5) HB (by kernel_rfl) (by kernel_rfl) (zB (t := 33) (k := 0) (off := 0) (m := 4) (xs := zh (nd (z7 1 0 (nv (nd (rs 1 (nv a))))))) EG rfl (zq (zf (zl _ _))) (zf (zl _ _)) (by kernel_rfl) (by kernel_rfl)) (by kernel_rfl) ?_
  have eb := root_yes (f := 1) (A := nv a) (by decide) (by assumption)
  have e : nd (z7 1 0 (nv (nd (rs 1 (nv a))))) = nd (rootN 1 (nv a)) := by first | exact root_odd (by decide) (by assumption) (by assumption) | exact root_even (by decide) (by assumption) (by assumption)
  rw [eb]
  exact ⟨congrArg (fun l : List UInt64 => Ending.returned (.tuple #[Value.agg (zh l).toArray, .bool true])) e, EG.pk []⟩
 refine wp_skip <| ze <| wp_seq <| zk <| f_o <| Zp 2 4 (zh (nd (rs 1 (nv a)))) Es Ee rfl (zf (zl _ _)) fun _ HC => f_o <| zQ 0 4 (zh (nd (rs 1 (nv a)))) [.box Ef (zh (nd (rs 1 (nv a)))) 33, .box Eb (zh (nd (zr 1 (nv a) (nv ([1, 0, 0, 0] : List UInt64))))) 33, .box Ea (zh (nd (rs 1 (nv a)))) 33] HC Ee rfl (zf (zl _ _)) (zf (zi)) (zt _) rfl fun _ _ HD EH => d_e [0,3,4,5,6,7,8,11,19] [] HD fun _ HE => ze <| wp_ret <| Z6 (v := .agg (zg (zh (nd (rs 1 (nv a)))))) (x := .bool true) (t := 4) (T := 33) (ad := ⟨Ef, 0, none⟩) (u := 5) HE (by kernel_rfl) (by kernel_rfl) (zB (t := 33) (k := 0) (off := 0) (m := 4) (xs := zh (nd (rs 1 (nv a)))) EH rfl (zq (zf (zl _ _))) (zf (zl _ _)) (by kernel_rfl) (by kernel_rfl)) (by kernel_rfl) ?_
 have eb := root_yes (f := 1) (A := nv a) (by decide) (by assumption)
 have e : nd (rs 1 (nv a)) = nd (rootN 1 (nv a)) := by first | exact root_odd (by decide) (by assumption) (by assumption) | exact root_even (by decide) (by assumption) (by assumption)
 rw [eb]
 exact ⟨congrArg (fun l : List UInt64 => Ending.returned (.tuple #[Value.agg (zh l).toArray, .bool true])) e, EH.pk []⟩
end Go.Proofs.YtlnogkmnklfjlaaGreatDoor
