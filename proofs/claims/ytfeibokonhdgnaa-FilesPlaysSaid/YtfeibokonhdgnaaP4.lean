/- Layer 2: a call to both stores. -/
import Derived.Test.YtfeibokonhdgnaaP3
namespace Go.Proofs.Ytfeibokonhdgnaa
open Go.Dbr
set_option maxRecDepth 100000
set_option maxHeartbeats 2000000
set_option linter.unusedVariables false
set_option linter.unusedSimpArgs false

theorem rem_none (w : World) (sb mb : Nat) (m : FM) (name : List UInt8) (hnm : List.length name ≤ 140737488351232) (ht : (kvAt m name).isSome = false) (hH : Heap w [.box sb [.map (some mb)] 52, .map mb (kvs FV.v m)]) : Calls Try.prog 26 #[pt sb, .string (bstr name)] w fun e w' => e = .returned (.int .i64 22) ∧ Ev w [.box sb [.map (some mb)] 52, .map mb (kvs FV.v m)] w' [.box sb [.map (some mb)] 52, .map mb (kvs FV.v m)] := by
 obtain ⟨a1, n1, c1, b1, m1, d1, t1, k1, hx⟩ : ∃ a1 n1 c1 b1 m1 d1 t1 k1, oldF m name = ⟨a1, n1, c1, b1, m1, d1, t1, k1⟩ := ⟨_, _, _, _, _, _, _, _, rfl⟩
 refine d_0 [(0, pt sb), (1, .string (bstr name))] 23 Go.Proofs.Try.func26 Go.Proofs.Try.ntmps26 (hH) fun act0 En0 Hv0 => ?_
 refine d_s [0,1,4] [] En0 fun ac1 En2 => ?_
 refine wp_seq ?_
 refine wp_seq ?_
 refine region_from ?_
 refine d_k [0,1,4,10] [] 3 En2 fun ac3 En4 => ?_
 refine f_o ?_
 refine m_l 0 En4 Hv0 fun ac5 En6 => ?_
 refine d_k [0,1,4,11,12] [] 5 En6 fun ac7 En8 => ?_
 refine f_o ?_
 refine op_lookup (d := some 13) (t := 50) (kt := 9) (et := 55) (b := mb) (j := 1) (k := name) (m := m) (f := FV.v) (z := .agg #[.slice none 0 0, .slice none 0 0, .bool false, .int .i64 0]) (v := .tuple #[.agg #[.slice a1 n1 c1, .slice b1 m1 d1, .bool t1, ni k1], .bool false]) (ok := true) En8 (by kernel_rfl) Hv0 rfl (by kernel_rfl) (by kernel_rfl) (by kernel_rfl) (look_t hx ht) fun ac9 En10 => ?_
 refine d_k [0,1,4,14,15] [] 9 En10 fun ac11 En12 => ?_
 refine f_o ?_
 refine m_z 55 [.slice none 0 0, .slice none 0 0, .bool false, .int .i64 0] En12 Hv0 fun ac14 wo15 bk13 En16 Hv17 => ?_
 refine f_o ?_
 refine m_g 2 0 4 [.slice a1 n1 c1, .slice b1 m1 d1, .bool t1, ni k1] [.slice a1 n1 c1, .slice b1 m1 d1, .bool t1, ni k1] [.box sb [.map (some mb)] 52, .map mb (kvs FV.v m), .box bk13 [.slice a1 n1 c1, .slice b1 m1 d1, .bool t1, ni k1] 55] En16 Hv17 rfl rfl (by simp) (one_all (by kernel_rfl)) rfl rfl fun ac18 wo19 En20 Hv21 => ?_
 refine d_e [0,1,4,6] [] En20 fun ac22 En23 => ?_
 refine then_normal ?_
 refine d_s [0,1,4,17] [] En23 fun ac24 En25 => ?_
 refine c_t En25 ?_
 refine d_s [0,1,4] [] En25 fun ac26 En27 => ?_
 refine wp_ret ?_
 refine then_ret ?_
 refine d_ret1 (t := 4) (v := .int .i64 22) En27 (by kernel_rfl) (by kernel_rfl) ?_
 exact ⟨rfl, Hv21.pick [0, 1] (by kernel_rfl) (by decide)⟩

theorem rem_ok (w : World) (sb mb : Nat) (m : FM) (name : List UInt8) (hnm : List.length name ≤ 140737488351232) (ht : (kvAt m name).isSome = true) (hH : Heap w [.box sb [.map (some mb)] 52, .map mb (kvs FV.v m)]) : Calls Try.prog 26 #[pt sb, .string (bstr name)] w fun e w' => e = .returned (.int .i64 0) ∧ Ev w [.box sb [.map (some mb)] 52, .map mb (kvs FV.v m)] w' [.box sb [.map (some mb)] 52, .map mb (kvs FV.v (kvCut name m))] := by
 obtain ⟨a1, n1, c1, b1, m1, d1, t1, k1, hx⟩ : ∃ a1 n1 c1 b1 m1 d1 t1 k1, oldF m name = ⟨a1, n1, c1, b1, m1, d1, t1, k1⟩ := ⟨_, _, _, _, _, _, _, _, rfl⟩
 refine d_0 [(0, pt sb), (1, .string (bstr name))] 23 Go.Proofs.Try.func26 Go.Proofs.Try.ntmps26 (hH) fun act0 En0 Hv0 => ?_
 refine d_s [0,1,4] [] En0 fun ac1 En2 => ?_
 refine wp_seq ?_
 refine wp_seq ?_
 refine region_from ?_
 refine d_k [0,1,4,10] [] 3 En2 fun ac3 En4 => ?_
 refine f_o ?_
 refine m_l 0 En4 Hv0 fun ac5 En6 => ?_
 refine d_k [0,1,4,11,12] [] 5 En6 fun ac7 En8 => ?_
 refine f_o ?_
 refine op_lookup (d := some 13) (t := 50) (kt := 9) (et := 55) (b := mb) (j := 1) (k := name) (m := m) (f := FV.v) (z := .agg #[.slice none 0 0, .slice none 0 0, .bool false, .int .i64 0]) (v := .tuple #[.agg #[.slice a1 n1 c1, .slice b1 m1 d1, .bool t1, ni k1], .bool true]) (ok := true) En8 (by kernel_rfl) Hv0 rfl (by kernel_rfl) (by kernel_rfl) (by kernel_rfl) (look_t hx ht) fun ac9 En10 => ?_
 refine d_k [0,1,4,14,15] [] 9 En10 fun ac11 En12 => ?_
 refine f_o ?_
 refine m_z 55 [.slice none 0 0, .slice none 0 0, .bool false, .int .i64 0] En12 Hv0 fun ac14 wo15 bk13 En16 Hv17 => ?_
 refine f_o ?_
 refine m_g 2 0 4 [.slice a1 n1 c1, .slice b1 m1 d1, .bool t1, ni k1] [.slice a1 n1 c1, .slice b1 m1 d1, .bool t1, ni k1] [.box sb [.map (some mb)] 52, .map mb (kvs FV.v m), .box bk13 [.slice a1 n1 c1, .slice b1 m1 d1, .bool t1, ni k1] 55] En16 Hv17 rfl rfl (by simp) (one_all (by kernel_rfl)) rfl rfl fun ac18 wo19 En20 Hv21 => ?_
 refine d_e [0,1,4,6] [] En20 fun ac22 En23 => ?_
 refine then_normal ?_
 refine d_s [0,1,4,17] [] En23 fun ac24 En25 => ?_
 refine c_f En25 ?_
 refine wp_skip ?_
 refine then_normal ?_
 refine wp_seq ?_
 refine region_from ?_
 refine d_k [0,1,4,20] [] 3 En25 fun ac26 En27 => ?_
 refine f_o ?_
 refine m_l 0 En27 Hv21 fun ac28 En29 => ?_
 refine d_k [0,1,4,21,22] [] 5 En29 fun ac30 En31 => ?_
 refine f_o ?_
 refine op_delete (d := none) (t := 50) (kt := 9) (et := 55) (ty := 0) (b := mb) (j := 1) (k := name) (m := m) (f := FV.v) En31 (by kernel_rfl) Hv21 rfl (by kernel_rfl) (by kernel_rfl) fun ac32 wo33 En34 Hv35 => ?_
 refine f_e ?_
 refine then_normal ?_
 refine d_s [0,1,4] [] En34 fun ac36 En37 => ?_
 refine wp_ret ?_
 refine d_ret1 (t := 4) (v := .int .i64 0) En37 (by kernel_rfl) (by kernel_rfl) ?_
 exact ⟨rfl, Hv35.pick [0, 1] (by kernel_rfl) (by decide)⟩

theorem put_badX (w : World) (sb mb : Nat) (m : FM) (name : List UInt8) (hnm : List.length name ≤ 140737488351232) (a : Option Addr) (c : Nat) (l : List UInt8) (i : InB w [.box sb [.map (some mb)] 52, .map mb (kvs FV.v m)] a c l) (c9 : Int) (hc : mayI name (List.length l) m = c9) (h0 : ¬ c9 = 0) (hH : Heap w [.box sb [.map (some mb)] 52, .map mb (kvs FV.v m)]) : Calls Try.prog 9 #[pt sb, .string (bstr name), .slice a (List.length l) c] w fun e w' => e = .returned (.int .i64 c9) ∧ Ev w [.box sb [.map (some mb)] 52, .map mb (kvs FV.v m)] w' [.box sb [.map (some mb)] 52, .map mb (kvs FV.v m)] := by
  subst hc
  exact put_bad w sb mb m name hnm a c l i h0 hH
theorem tear_mayX (w : World) (sb mb : Nat) (m : FM) (name : List UInt8) (hnm : List.length name ≤ 140737488351232) (a : Option Addr) (c : Nat) (l : List UInt8) (i : InB w [.box sb [.map (some mb)] 52, .map mb (kvs FV.v m)] a c l) (k : Int) (c9 : Int) (hc : mayI name (List.length l) m = c9) (h0 : ¬ c9 = 0) (hH : Heap w [.box sb [.map (some mb)] 52, .map mb (kvs FV.v m)]) : Calls Try.prog 10 #[pt sb, .string (bstr name), .slice a (List.length l) c, .int .i64 k] w fun e w' => e = .returned (.int .i64 c9) ∧ Ev w [.box sb [.map (some mb)] 52, .map mb (kvs FV.v m)] w' [.box sb [.map (some mb)] 52, .map mb (kvs FV.v m)] := by
  subst hc
  exact tear_may w sb mb m name hnm a c l i k h0 hH
theorem tear_tornX (w : World) (sb mb : Nat) (m : FM) (name : List UInt8) (hnm : List.length name ≤ 140737488351232) (a : Option Addr) (c : Nat) (l : List UInt8) (i : InB w [.box sb [.map (some mb)] 52, .map mb (kvs FV.v m)] a c l) (k : Int) (hm : mayI name (List.length l) m = 0) (ht : (oldF m name).t = true) (hH : Heap w [.box sb [.map (some mb)] 52, .map mb (kvs FV.v m)]) : Calls Try.prog 10 #[pt sb, .string (bstr name), .slice a (List.length l) c, .int .i64 k] w fun e w' => e = .returned (.int .i64 25) ∧ Ev w [.box sb [.map (some mb)] 52, .map mb (kvs FV.v m)] w' [.box sb [.map (some mb)] 52, .map mb (kvs FV.v m)] := by
  rcases hx : oldF m name with ⟨a1, n1, c1, b1, m1, d1, t1, k1⟩
  rw [hx] at ht
  have ht : t1 = true := ht
  subst ht
  exact tear_torn w sb mb m name hnm a c l i k hm a1 n1 c1 b1 m1 d1 k1 hx hH
theorem tear_argX (w : World) (sb mb : Nat) (m : FM) (name : List UInt8) (hnm : List.length name ≤ 140737488351232) (a : Option Addr) (c : Nat) (l : List UInt8) (i : InB w [.box sb [.map (some mb)] 52, .map mb (kvs FV.v m)] a c l) (k : Int) (hk : k < 0 ∨ (List.length l : Int) < k) (hm : mayI name (List.length l) m = 0) (ht : (oldF m name).t = false) (hH : Heap w [.box sb [.map (some mb)] 52, .map mb (kvs FV.v m)]) : Calls Try.prog 10 #[pt sb, .string (bstr name), .slice a (List.length l) c, .int .i64 k] w fun e w' => e = .returned (.int .i64 1) ∧ Ev w [.box sb [.map (some mb)] 52, .map mb (kvs FV.v m)] w' [.box sb [.map (some mb)] 52, .map mb (kvs FV.v m)] := by
  rcases hx : oldF m name with ⟨a1, n1, c1, b1, m1, d1, t1, k1⟩
  rw [hx] at ht
  have ht : t1 = false := ht
  subst ht
  exact tear_arg w sb mb m name hnm a c l i k hk hm a1 n1 c1 b1 m1 d1 k1 hx hH
theorem tear_okX (w : World) (sb mb : Nat) (m : FM) (name : List UInt8) (hnm : List.length name ≤ 140737488351232) (a : Option Addr) (c : Nat) (l : List UInt8) (i : InB w [.box sb [.map (some mb)] 52, .map mb (kvs FV.v m)] a c l) (n : Int) (k : Nat) (hn : n = (k : Int)) (hk : k ≤ List.length l) (hm : mayI name (List.length l) m = 0) (a1 : Option Addr) (n1 c1 : Nat) (b1 : Option Addr) (m1 d1 : Nat) (t1 : Bool) (k1 : Nat) (hx : oldF m name = ⟨a1, n1, c1, b1, m1, d1, t1, k1⟩) (ht : (oldF m name).t = false) (hH : Heap w [.box sb [.map (some mb)] 52, .map mb (kvs FV.v m)]) : Calls Try.prog 10 #[pt sb, .string (bstr name), .slice a (List.length l) c, .int .i64 n] w fun e w' => ∃ ao co, e = .returned (.int .i64 0) ∧ Ev w [.box sb [.map (some mb)] 52, .map mb (kvs FV.v m)] w' [.box sb [.map (some mb)] 52, .map mb (kvs FV.v (kvPut name ⟨a1, n1, c1, ao, List.length l, co, true, k⟩ m)), .vec ao co 1 (bys l) 5] := by
  subst hn
  rw [hx] at ht
  have ht : t1 = false := ht
  subst ht
  exact tear_ok w sb mb m name hnm a c l i k hk hm a1 n1 c1 b1 m1 d1 k1 hx hH
theorem settle_notX (w : World) (sb mb : Nat) (m : FM) (name : List UInt8) (hnm : List.length name ≤ 140737488351232) (hs : (kvAt m name).isSome = true) (ht : (oldF m name).t = false) (hH : Heap w [.box sb [.map (some mb)] 52, .map mb (kvs FV.v m)]) : Calls Try.prog 14 #[pt sb, .string (bstr name)] w fun e w' => e = .returned (.int .i64 25) ∧ Ev w [.box sb [.map (some mb)] 52, .map mb (kvs FV.v m)] w' [.box sb [.map (some mb)] 52, .map mb (kvs FV.v m)] := by
  rcases hx : oldF m name with ⟨a1, n1, c1, b1, m1, d1, t1, k1⟩
  rw [hx] at ht
  have ht : t1 = false := ht
  subst ht
  exact settle_not w sb mb m name hnm hs a1 n1 c1 b1 m1 d1 k1 hx hH
theorem settle_okX (w : World) (sb mb : Nat) (m : FM) (name : List UInt8) (hnm : List.length name ≤ 140737488351232) (hs : (kvAt m name).isSome = true) (a1 : Option Addr) (n1 c1 : Nat) (b1 : Option Addr) (m1 d1 : Nat) (t1 : Bool) (k1 : Nat) (hx : oldF m name = ⟨a1, n1, c1, b1, m1, d1, t1, k1⟩) (ht : (oldF m name).t = true) (hH : Heap w [.box sb [.map (some mb)] 52, .map mb (kvs FV.v m)]) : Calls Try.prog 14 #[pt sb, .string (bstr name)] w fun e w' => e = .returned (.int .i64 0) ∧ Ev w [.box sb [.map (some mb)] 52, .map mb (kvs FV.v m)] w' [.box sb [.map (some mb)] 52, .map mb (kvs FV.v (kvPut name ⟨b1, m1, d1, none, 0, 0, false, 0⟩ m))] := by
  rw [hx] at ht
  have ht : t1 = true := ht
  subst ht
  exact settle_ok w sb mb m name hnm hs a1 n1 c1 b1 m1 d1 k1 hx hH
theorem torn_goX (w : World) (sb mb : Nat) (m : FM) (name : List UInt8) (hnm : List.length name ≤ 140737488351232) (tt : Bool) (ht : (oldF m name).t = tt) (hH : Heap w [.box sb [.map (some mb)] 52, .map mb (kvs FV.v m)]) : Calls Try.prog 13 #[pt sb, .string (bstr name)] w fun e w' => e = .returned (.bool tt) ∧ Ev w [.box sb [.map (some mb)] 52, .map mb (kvs FV.v m)] w' [.box sb [.map (some mb)] 52, .map mb (kvs FV.v m)] := by
  rcases hx : oldF m name with ⟨a1, n1, c1, b1, m1, d1, t1, k1⟩
  rw [hx] at ht
  have ht : t1 = tt := ht
  subst ht
  exact torn_go w sb mb m name hnm a1 n1 c1 b1 m1 d1 t1 k1 hx hH
theorem rtear_okX (w : World) (tb : Nat) (ax : Option Addr) (cx : Nat) (xs : List RF) (h64 : List.length xs ≤ 64) (name : List UInt8) (hnm : List.length name ≤ 140737488351232) (a : Option Addr) (c : Nat) (l : List UInt8) (i : InB w [.box tb [.slice ax (List.length xs) cx] 43, .vec ax cx 5 (List.flatMap fRF xs) 48] a c l) (n : Int) (k : Nat) (hn : n = (k : Int)) (hk : k ≤ List.length l) (hm : mayX name (List.length l) (hitX name xs) (List.length xs) = 0) (htt : tornX name xs = false) (nm1 : List UInt8) (aB : Option Addr) (cB : Nat) (lB : List UInt8) (t1 : Bool) (aN : Option Addr) (cN : Nat) (lN : List UInt8) (n1 : Int) (hx : (madeX name xs)[plc name xs]? = some (nm1, ⟨aB, cB, lB⟩, t1, ⟨aN, cN, lN⟩, n1, ())) (hH : Heap w [.box tb [.slice ax (List.length xs) cx] 43, .vec ax cx 5 (List.flatMap fRF xs) 48]) : Calls Try.prog 24 #[pt tb, .string (bstr name), .slice a (List.length l) c, .int .i64 n] w fun e w' => ∃ ay cy ao co, e = .returned (.int .i64 0) ∧ Ev w [.box tb [.slice ax (List.length xs) cx] 43, .vec ax cx 5 (List.flatMap fRF xs) 48] w' [.box tb [.slice ay (List.length (List.set (madeX name xs) (plc name xs) (nm1, ⟨aB, cB, lB⟩, true, ⟨ao, co, l⟩, (k : Int), ()))) cy] 43, .vec ay cy 5 (List.flatMap fRF (List.set (madeX name xs) (plc name xs) (nm1, ⟨aB, cB, lB⟩, true, ⟨ao, co, l⟩, (k : Int), ()))) 48, .vec ao co 1 (bys l) 5] := by
  subst hn
  exact rtear_ok w tb ax cx xs h64 name hnm a c l i k hk hm htt nm1 aB cB lB t1 aN cN lN n1 hx hH
theorem rsettle_notX (w : World) (tb : Nat) (ax : Option Addr) (cx : Nat) (xs : List RF) (h64 : List.length xs ≤ 64) (name : List UInt8) (hnm : List.length name ≤ 140737488351232) (hh : hitX name xs = true) (ht : tornX name xs = false) (hH : Heap w [.box tb [.slice ax (List.length xs) cx] 43, .vec ax cx 5 (List.flatMap fRF xs) 48]) : Calls Try.prog 25 #[pt tb, .string (bstr name)] w fun e w' => e = .returned (.int .i64 25) ∧ Ev w [.box tb [.slice ax (List.length xs) cx] 43, .vec ax cx 5 (List.flatMap fRF xs) 48] w' [.box tb [.slice ax (List.length xs) cx] 43, .vec ax cx 5 (List.flatMap fRF xs) 48] := by
  have hx := List.getElem?_eq_getElem (hit_lt hh)
  rcases hy : xs[plc name xs]'(hit_lt hh) with ⟨nm1, ⟨aB, cB, lB⟩, t1, ⟨aN, cN, lN⟩, n1, u⟩
  rw [hy] at hx
  rw [tornX_hit hh hx] at ht
  have ht : t1 = false := ht
  subst ht
  exact rsettle_not w tb ax cx xs h64 name hnm hh nm1 aB cB lB aN cN lN n1 hx hH
theorem rsettle_okX (w : World) (tb : Nat) (ax : Option Addr) (cx : Nat) (xs : List RF) (h64 : List.length xs ≤ 64) (name : List UInt8) (hnm : List.length name ≤ 140737488351232) (hh : hitX name xs = true) (nm1 : List UInt8) (aB : Option Addr) (cB : Nat) (lB : List UInt8) (t1 : Bool) (aN : Option Addr) (cN : Nat) (lN : List UInt8) (n1 : Int) (hx : (xs)[plc name xs]? = some (nm1, ⟨aB, cB, lB⟩, t1, ⟨aN, cN, lN⟩, n1, ())) (ht : tornX name xs = true) (hH : Heap w [.box tb [.slice ax (List.length xs) cx] 43, .vec ax cx 5 (List.flatMap fRF xs) 48]) : Calls Try.prog 25 #[pt tb, .string (bstr name)] w fun e w' => ∃ ay cy, e = .returned (.int .i64 0) ∧ Ev w [.box tb [.slice ax (List.length xs) cx] 43, .vec ax cx 5 (List.flatMap fRF xs) 48] w' [.box tb [.slice ay (List.length (List.set xs (plc name xs) (name, ⟨aN, cN, lN⟩, false, ⟨none, 0, []⟩, 0, ()))) cy] 43, .vec ay cy 5 (List.flatMap fRF (List.set xs (plc name xs) (name, ⟨aN, cN, lN⟩, false, ⟨none, 0, []⟩, 0, ()))) 48] := by
  rw [tornX_hit hh hx] at ht
  have ht : t1 = true := ht
  subst ht
  exact rsettle_ok w tb ax cx xs h64 name hnm hh nm1 aB cB lB aN cN lN n1 hx hH
theorem tear_ways (M : Int) (T : Bool) (n : Int) (q : Nat) : ¬ M = 0 ∨ (M = 0 ∧ T = true) ∨ (M = 0 ∧ T = false ∧ (n < 0 ∨ (q : Int) < n)) ∨ (M = 0 ∧ T = false ∧ ∃ k : Nat, n = (k : Int) ∧ k ≤ q) := by
  by_cases h : M = 0
  · cases T with
    | true => exact .inr (.inl ⟨h, rfl⟩)
    | false =>
      by_cases g : n < 0 ∨ (q : Int) < n
      · exact .inr (.inr (.inl ⟨h, rfl, g⟩))
      · exact .inr (.inr (.inr ⟨h, rfl, n.toNat, by omega, by omega⟩))
  · exact .inl h
theorem settle_ways (A T : Bool) : A = false ∨ (A = true ∧ T = false) ∨ (A = true ∧ T = true) := by cases A <;> cases T <;> simp
theorem made_el (name : Bs) (xs : List RF) : ∃ nm1 aB cB lB t1 aN cN lN n1, (madeX name xs)[plc name xs]? = some (nm1, ⟨aB, cB, lB⟩, t1, ⟨aN, cN, lN⟩, n1, ()) := ⟨_, _, _, _, _, _, _, _, _, List.getElem?_eq_getElem (made_len name xs).2⟩
theorem hit_el {name : Bs} {xs : List RF} (h : hitX name xs = true) : ∃ nm1 aB cB lB t1 aN cN lN n1, xs[plc name xs]? = some (nm1, ⟨aB, cB, lB⟩, t1, ⟨aN, cN, lN⟩, n1, ()) := ⟨_, _, _, _, _, _, _, _, _, List.getElem?_eq_getElem (hit_lt h)⟩
theorem rec_el (m : FM) (name : Bs) : ∃ a0 n0 c0 b0 m0 d0 t0 k0, oldF m name = ⟨a0, n0, c0, b0, m0, d0, t0, k0⟩ := ⟨_, _, _, _, _, _, _, _, rfl⟩

end Go.Proofs.Ytfeibokonhdgnaa
