/- Layer 2: the store. -/
import Derived.Test.YtfeibokonhdgnaaK2
namespace Go.Proofs.Ytfeibokonhdgnaa
open Go.Dbr
set_option maxRecDepth 100000
set_option maxHeartbeats 2000000
set_option linter.unusedVariables false
set_option linter.unusedSimpArgs false

/-- a file: the old bytes, the fresh ones, whether it is torn, how many are written -/
structure FV where
  a : Option Addr
  n : Nat
  c : Nat
  b : Option Addr
  m : Nat
  d : Nat
  t : Bool
  k : Nat
def FV.v (x : FV) : Value := .agg #[.slice x.a x.n x.c, .slice x.b x.m x.d, .bool x.t, .int .i64 ((x.k : Nat) : Int)]
def f0 : FV := ⟨none, 0, 0, none, 0, 0, false, 0⟩
abbrev FM := List (Bs × FV)
def oldF (m : FM) (k : Bs) : FV := (kvAt m k).getD f0
theorem look_v {m : FM} {k : Bs} {x : FV} (h : oldF m k = x) : ((kvAt m k).map FV.v).getD f0.v = x.v := by
  rw [← h, oldF]
  cases kvAt m k <;> rfl
theorem look_f {m : FM} {k : Bs} {x : FV} (h : oldF m k = x) : (if false = true then Value.tuple #[((kvAt m k).map FV.v).getD f0.v, .bool (kvAt m k).isSome] else ((kvAt m k).map FV.v).getD f0.v) = x.v := by
  rw [if_neg (by decide), look_v h]
theorem look_t {m : FM} {k : Bs} {x : FV} {s : Bool} (h : oldF m k = x) (hs : (kvAt m k).isSome = s) : (if true = true then Value.tuple #[((kvAt m k).map FV.v).getD f0.v, .bool (kvAt m k).isSome] else ((kvAt m k).map FV.v).getD f0.v) = .tuple #[x.v, .bool s] := by
  rw [if_pos rfl, look_v h, hs]
theorem old_self {m : FM} {k : Bs} {x : FV} : oldF (kvPut k x m) k = x := by rw [oldF, kvAt_self]; rfl
theorem some_self {m : FM} {k : Bs} {x : FV} : (kvAt (kvPut k x m) k).isSome = true := by rw [kvAt_self]; rfl
theorem old_at {m m' : FM} {k : Bs} (h : kvAt m' k = kvAt m k) {x : FV} (g : oldF m k = x) : oldF m' k = x := by rw [← g, oldF, h, oldF]
def mayI (name : Bs) (n : Nat) (m : FM) : Int :=
  if nmL name = true then (if 65536 < n then 23 else if (kvAt m name).isSome = false ∧ 64 ≤ m.length then 24 else 0) else 21
theorem may_1 {name : Bs} {n : Nat} {m : FM} (h : ¬ nmL name = true) : mayI name n m = 21 := by rw [mayI, if_neg h]
theorem may_2 {name : Bs} {n : Nat} {m : FM} (h : nmL name = true) (h2 : 65536 < n) : mayI name n m = 23 := by rw [mayI, if_pos h, if_pos h2]
theorem may_3 {name : Bs} {n : Nat} {m : FM} (h : nmL name = true) (h2 : ¬ 65536 < n) (h3 : ¬ (kvAt m name).isSome = true) (h4 : 64 ≤ m.length) : mayI name n m = 24 := by
  rw [mayI, if_pos h, if_neg h2, if_pos ⟨Bool.eq_false_iff.2 h3, h4⟩]
theorem may_4 {name : Bs} {n : Nat} {m : FM} (h : nmL name = true) (h2 : ¬ 65536 < n) (h4 : ¬ 64 ≤ m.length) : mayI name n m = 0 := by
  rw [mayI, if_pos h, if_neg h2, if_neg (fun g => h4 g.2)]
theorem may_5 {name : Bs} {n : Nat} {m : FM} (h : nmL name = true) (h2 : ¬ 65536 < n) (h3 : (kvAt m name).isSome = true) : mayI name n m = 0 := by
  rw [mayI, if_pos h, if_neg h2, if_neg (fun g => by rw [h3] at g; cases g.1)]
theorem may_len {name : Bs} {n : Nat} {m : FM} (h : mayI name n m = 0) : n ≤ 65536 := by
  unfold mayI at h
  split at h
  · split at h
    · cases h
    · omega
  · cases h
theorem kvs_len {α : Type} {f : α → Value} (m : List (Bs × α)) : List.length (kvs f m) = List.length m := List.length_map _

theorem new_go (w : World) : Calls Try.prog 8 #[] w fun e w' => ∃ sb mb, e = .returned (pt sb) ∧ Ev w [] w' [.box sb [.map (some mb)] 52, .map mb (kvs FV.v [])] := by
 refine d_0 [] 4 Go.Proofs.Try.func8 Go.Proofs.Try.ntmps8 (Heap.nil _) fun act0 En0 Hv0 => ?_
 refine d_s [0] [] En0 fun ac1 En2 => ?_
 refine wp_seq ?_
 refine region_from ?_
 refine f_o ?_
 refine op_makemap (d := some 1) (t := 50) En2 (by kernel_rfl) Hv0 ?_
 intro ac4 wo5 bk3 En6 Hv7
 replace Hv7 : Ev w [] wo5 [.map bk3 (kvs FV.v [])] := Hv7
 refine d_k [0,2] [] 2 En6 fun ac8 En9 => ?_
 refine f_o ?_
 refine m_m 52 [.map (some bk3)] En9 Hv7 fun ac11 wo12 bk10 En13 Hv14 => ?_
 refine d_e [0] [] En13 fun ac15 En16 => ?_
 refine then_normal ?_
 refine wp_ret ?_
 refine d_ret1 (t := 0) (v := pt bk10) En16 (by kernel_rfl) (by kernel_rfl) ?_
 exact ⟨bk10, bk3, rfl, Hv14.pick [1, 0] (by kernel_rfl) (by decide)⟩

theorem may_go (w : World) (sb mb : Nat) (m : FM) (name : List UInt8) (hnm : List.length name ≤ 140737488351232) (a : Option Addr) (n c : Nat) (hn : n ≤ 140737489403904) (hH : Heap w [.box sb [.map (some mb)] 52, .map mb (kvs FV.v m)]) : Calls Try.prog 18 #[pt sb, .string (bstr name), .slice a n c] w fun e w' => e = .returned (.int .i64 (mayI name n m)) ∧ Ev w [.box sb [.map (some mb)] 52, .map mb (kvs FV.v m)] w' [.box sb [.map (some mb)] 52, .map mb (kvs FV.v m)] := by
 obtain ⟨a1, n1, c1, b1, m1, d1, t1, k1, hx⟩ : ∃ a1 n1 c1 b1 m1 d1 t1 k1, oldF m name = ⟨a1, n1, c1, b1, m1, d1, t1, k1⟩ := ⟨_, _, _, _, _, _, _, _, rfl⟩
 refine d_0 [(0, pt sb), (1, .string (bstr name)), (2, .slice a n c)] 37 Go.Proofs.Try.func18 Go.Proofs.Try.ntmps18 (hH) fun act0 En0 Hv0 => ?_
 refine d_s [0,1,2,6] [] En0 fun ac1 En2 => ?_
 refine wp_seq ?_
 refine region_from ?_
 refine d_k [0,1,2,6,12] [] 3 En2 fun ac3 En4 => ?_
 refine f_o ?_
 refine m_l 0 En4 Hv0 fun ac5 En6 => ?_
 refine d_k [0,1,2,6,13,14] [] 5 En6 fun ac7 En8 => ?_
 refine f_o ?_
 refine op_lookup (d := some 15) (t := 50) (kt := 9) (et := 55) (b := mb) (j := 1) (k := name) (m := m) (f := FV.v) (z := .agg #[.slice none 0 0, .slice none 0 0, .bool false, .int .i64 0]) (v := .tuple #[.agg #[.slice a1 n1 c1, .slice b1 m1 d1, .bool t1, ni k1], .bool ((kvAt m name).isSome)]) (ok := true) En8 (by kernel_rfl) Hv0 rfl (by kernel_rfl) (by kernel_rfl) (by kernel_rfl) (look_t hx rfl) fun ac9 En10 => ?_
 refine d_k [0,1,2,6,16,17] [] 9 En10 fun ac11 En12 => ?_
 refine f_o ?_
 refine m_z 55 [.slice none 0 0, .slice none 0 0, .bool false, .int .i64 0] En12 Hv0 fun ac14 wo15 bk13 En16 Hv17 => ?_
 refine f_o ?_
 refine m_g 2 0 4 [.slice a1 n1 c1, .slice b1 m1 d1, .bool t1, ni k1] [.slice a1 n1 c1, .slice b1 m1 d1, .bool t1, ni k1] [.box sb [.map (some mb)] 52, .map mb (kvs FV.v m), .box bk13 [.slice a1 n1 c1, .slice b1 m1 d1, .bool t1, ni k1] 55] En16 Hv17 rfl rfl (by simp) (one_all (by kernel_rfl)) rfl rfl fun ac18 wo19 En20 Hv21 => ?_
 refine d_e [0,1,2,6,8] [] En20 fun ac22 En23 => ?_
 refine then_normal ?_
 refine wp_seq ?_
 refine wp_block ?_
 refine wp_seq ?_
 refine region_from ?_
 refine d_k [0,1,2,6,8,19] [] 1 En23 fun ac24 En25 => ?_
 refine f_o ?_
 refine c_p En25 Hv21 (named_go _ name (by first | assumption | omega)) fun ac30 wo27 En31 Hv32 => ?_
 refine d_e [0,1,2,6,8,18] [] En31 fun ac33 En34 => ?_
 refine then_normal ?_
 refine cond_at En34 (t := !(nmL name)) (by kernel_rfl) (fun hc35 => ?_) (fun hc35 => ?_)
 ·
  replace hc35 : ¬ (nmL name = true) := by simpa using hc35
  refine d_s [0,1,2,6,8] [] En34 fun ac36 En37 => ?_
  refine wp_ret ?_
  refine block_ret ?_
  refine then_ret ?_
  refine d_ret1 (t := 6) (v := .int .i64 21) En37 (by kernel_rfl) (by kernel_rfl) ?_
  rw [may_1 (by assumption)]
  exact ⟨rfl, Hv32.pick [0, 1] (by kernel_rfl) (by decide)⟩
 ·
  replace hc35 : nmL name = true := by simpa using hc35
  refine d_s [0,1,6,8,22] [] En34 fun ac38 En39 => ?_
  refine c_d (((n : Nat) : Int) > (65536 : Int)) En39 (fun hc40 => ?_) (fun hc40 => ?_)
  ·
   refine d_s [0,1,6,8] [] En39 fun ac41 En42 => ?_
   refine wp_ret ?_
   refine block_ret ?_
   refine then_ret ?_
   refine d_ret1 (t := 6) (v := .int .i64 23) En42 (by kernel_rfl) (by kernel_rfl) ?_
   rw [may_2 (by assumption) (by omega)]
   exact ⟨rfl, Hv32.pick [0, 1] (by kernel_rfl) (by decide)⟩
  ·
   refine wp_seq ?_
   refine region_from ?_
   refine d_k [0,1,6,29] [] 3 En39 fun ac43 En44 => ?_
   rcases Bool.eq_false_or_eq_true (!((kvAt m name).isSome)) with hb45 | hb45
   ·
    have En46 := En44.fx (t := 29) (congrArg Value.bool hb45)
    have hp47 : ¬ ((kvAt m name).isSome = true) := by simpa using hb45
    refine d_k [0,1,6,29,32] [] 6 En46 fun ac48 En49 => ?_
    refine f_o ?_
    refine m_l 0 En49 Hv32 fun ac50 En51 => ?_
    refine f_o ?_
    refine q_v (x := Builtin.len_ #[50] 3 #[.map (some mb)]) (v := .int .i64 ((List.length m : Nat) : Int)) En51 (run_lenmap (kt := 9) (et := 55) Hv32.heap (j := 1) rfl (by kernel_rfl) (List.length_map _)) fun ac52 En53 => ?_
    refine d_e [0,1,6,26] [] En53 fun ac54 En55 => ?_
    refine then_normal ?_
    refine c_d (((List.length m : Nat) : Int) ≥ (64 : Int)) En55 (fun hc56 => ?_) (fun hc56 => ?_)
    ·
     refine d_s [0,1,6] [] En55 fun ac57 En58 => ?_
     refine wp_ret ?_
     refine block_ret ?_
     refine then_ret ?_
     refine d_ret1 (t := 6) (v := .int .i64 24) En58 (by kernel_rfl) (by kernel_rfl) ?_
     rw [may_3 (by assumption) (by omega) (by assumption) (by omega)]
     exact ⟨rfl, Hv32.pick [0, 1] (by kernel_rfl) (by decide)⟩
    ·
     refine wp_skip ?_
     refine block_normal ?_
     refine then_normal ?_
     refine d_s [0,1,6] [] En55 fun ac59 En60 => ?_
     refine wp_ret ?_
     refine d_ret1 (t := 6) (v := .int .i64 0) En60 (by kernel_rfl) (by kernel_rfl) ?_
     rw [show mayI name n m = 0 from by first | exact may_4 (by assumption) (by omega) (by omega) | exact may_5 (by assumption) (by omega) (by assumption)]
     exact ⟨rfl, Hv32.pick [0, 1] (by kernel_rfl) (by decide)⟩
   ·
    have En61 := En44.fx (t := 29) (congrArg Value.bool hb45)
    have hp62 : (kvAt m name).isSome = true := by simpa using hb45
    refine d_e [0,1,6,26] [] En61 fun ac63 En64 => ?_
    refine then_normal ?_
    refine c_f En64 ?_
    refine wp_skip ?_
    refine block_normal ?_
    refine then_normal ?_
    refine d_s [0,1,6] [] En64 fun ac65 En66 => ?_
    refine wp_ret ?_
    refine d_ret1 (t := 6) (v := .int .i64 0) En66 (by kernel_rfl) (by kernel_rfl) ?_
    rw [show mayI name n m = 0 from by first | exact may_4 (by assumption) (by omega) (by omega) | exact may_5 (by assumption) (by omega) (by assumption)]
    exact ⟨rfl, Hv32.pick [0, 1] (by kernel_rfl) (by decide)⟩

theorem put_bad (w : World) (sb mb : Nat) (m : FM) (name : List UInt8) (hnm : List.length name ≤ 140737488351232) (a : Option Addr) (c : Nat) (l : List UInt8) (i : InB w [.box sb [.map (some mb)] 52, .map mb (kvs FV.v m)] a c l) (hm : ¬ mayI name (List.length l) m = 0) (hH : Heap w [.box sb [.map (some mb)] 52, .map mb (kvs FV.v m)]) : Calls Try.prog 9 #[pt sb, .string (bstr name), .slice a (List.length l) c] w fun e w' => e = .returned (.int .i64 (mayI name (List.length l) m)) ∧ Ev w [.box sb [.map (some mb)] 52, .map mb (kvs FV.v m)] w' [.box sb [.map (some mb)] 52, .map mb (kvs FV.v m)] := by
 have hsm := i.small
 have hcp := i.cap
 refine d_0 [(0, pt sb), (1, .string (bstr name)), (2, .slice a (List.length l) c)] 23 Go.Proofs.Try.func9 Go.Proofs.Try.ntmps9 (hH) fun act0 En0 Hv0 => ?_
 refine d_s [0,1,2,6] [] En0 fun ac1 En2 => ?_
 refine wp_seq ?_
 refine region_from ?_
 refine d_k [0,1,2,6,8,9,10] [] 3 En2 fun ac3 En4 => ?_
 refine f_o ?_
 refine c_l [0,1] (M := [.box sb [.map (some mb)] 52, .map mb (kvs FV.v m)]) En4 Hv0 (fun hM5 => may_go _ sb mb m name (by first | assumption | omega) a (List.length l) c (by first | omega | (simp; done) | (simp; omega)) hM5) ?_
 rintro _ wo6 ⟨rfl, he7⟩
 refine ⟨_, _, [.box sb [.map (some mb)] 52, .map mb (kvs FV.v m)], rfl, he7, by kernel_rfl, fun ac9 En10 Hv11 => ?_⟩
 refine d_e [0,1,2,6,7] [] En10 fun ac12 En13 => ?_
 refine then_normal ?_
 refine wp_seq ?_
 refine d_s [0,1,2,6,7,13] [(1, g_b (show (mayI name (List.length l) m == (0 : Int)) = false from (beq_eq_false_iff_ne.2 hm)))] En13 fun ac14 En15 => ?_
 refine c_f En15 ?_
 refine wp_skip ?_
 refine then_normal ?_
 refine d_s [0,1,2,6,7] [] En15 fun ac16 En17 => ?_
 refine wp_ret ?_
 refine d_ret1 (t := 6) (v := .int .i64 (mayI name (List.length l) m)) En17 (by kernel_rfl) (by kernel_rfl) ?_
 exact ⟨rfl, Hv11.pick [0, 1] (by kernel_rfl) (by decide)⟩

theorem put_ok (w : World) (sb mb : Nat) (m : FM) (name : List UInt8) (hnm : List.length name ≤ 140737488351232) (a : Option Addr) (c : Nat) (l : List UInt8) (i : InB w [.box sb [.map (some mb)] 52, .map mb (kvs FV.v m)] a c l) (hm : mayI name (List.length l) m = 0) (hH : Heap w [.box sb [.map (some mb)] 52, .map mb (kvs FV.v m)]) : Calls Try.prog 9 #[pt sb, .string (bstr name), .slice a (List.length l) c] w fun e w' => ∃ ao co, e = .returned (.int .i64 0) ∧ Ev w [.box sb [.map (some mb)] 52, .map mb (kvs FV.v m)] w' [.box sb [.map (some mb)] 52, .map mb (kvs FV.v (kvPut name ⟨ao, List.length l, co, none, 0, 0, false, 0⟩ m)), .vec ao co 1 (bys l) 5] := by
 have hsm := i.small
 have hcp := i.cap
 refine d_0 [(0, pt sb), (1, .string (bstr name)), (2, .slice a (List.length l) c)] 23 Go.Proofs.Try.func9 Go.Proofs.Try.ntmps9 (hH) fun act0 En0 Hv0 => ?_
 refine d_s [0,1,2,6] [] En0 fun ac1 En2 => ?_
 refine wp_seq ?_
 refine region_from ?_
 refine d_k [0,1,2,6,8,9,10] [] 3 En2 fun ac3 En4 => ?_
 refine f_o ?_
 refine c_l [0,1] (M := [.box sb [.map (some mb)] 52, .map mb (kvs FV.v m)]) En4 Hv0 (fun hM5 => may_go _ sb mb m name (by first | assumption | omega) a (List.length l) c (by first | omega | (simp; done) | (simp; omega)) hM5) ?_
 rintro _ wo6 ⟨rfl, he7⟩
 refine ⟨_, _, [.box sb [.map (some mb)] 52, .map mb (kvs FV.v m)], rfl, he7, by kernel_rfl, fun ac9 En10 Hv11 => ?_⟩
 refine d_e [0,1,2,6,7] [] En10 fun ac12 En13 => ?_
 refine then_normal ?_
 refine wp_seq ?_
 refine d_s [0,1,2,6,7,13] [(1, g_b (show (mayI name (List.length l) m == (0 : Int)) = true from (beq_iff_eq.2 hm)))] En13 fun ac14 En15 => ?_
 refine c_t En15 ?_
 refine r_c (fun ac wo => ∃ (ao59 : _) (cp60 : _), Env ac 23 [(0, pt sb), (1, .string (bstr name)), (2, .slice a (List.length l) c), (6, .int .i64 0), (7, .int .i64 (mayI name (List.length l) m))] ∧ Ev w [.box sb [.map (some mb)] 52, .map mb (kvs FV.v m)] wo [.vec ao59 cp60 1 (bys l) 5, .box sb [.map (some mb)] 52, .map mb (kvs FV.v (kvPut name ⟨ao59, List.length l, cp60, none, 0, 0, false, 0⟩ m))]) ?_ ?_
 ·
  refine h_s (fun wv => Ev w [.box sb [.map (some mb)] 52, .map mb (kvs FV.v m)] wv [.box sb [.map (some mb)] 52]) [] 9 ?_
  have wo16 := Hv11.trans (Ev.drew Hv11.heap)
  refine q_s [0,1,2] [] 6 En15 (wo16.pick [0] (by kernel_rfl) (by decide)) fun ac74 En75 => ?_
  refine q_l 0 3 En75 (wo16.pick [0] (by kernel_rfl) (by decide)) fun ac76 En77 => ?_
  refine q_s [4,5] [] 3 En77 (wo16.pick [0] (by kernel_rfl) (by decide)) fun ac78 En79 => ?_
  refine q_t 6 ?_
  refine c_0 En79 wo16 (clone_go _ a c l ((i.ev wo16).pick [] (by kernel_rfl))) ?_
  rintro _ wo83 ⟨ao80, cp81, rfl, he84⟩
  refine ⟨_, _, _, rfl, he84, rfl, fun ac86 En87 Hv88 => ?_⟩
  refine ⟨fun _ => Hv88.pick [1] (by kernel_rfl) (by decide), ?_⟩
  refine q_s [7] [] 1 En87 (Hv88.pick [1] (by kernel_rfl) (by decide)) fun ac89 En90 => ?_
  refine q_t 8 ?_
  refine op_update (d := none) (t := 50) (kt := 9) (et := 55) (b := mb) (j := 2) (k := name) (m := m) (f := FV.v) (v := ⟨ao80, List.length l, cp81, none, 0, 0, false, 0⟩) (V := .agg #[.slice ao80 (List.length l) cp81, .slice none 0 0, .bool false, .int .i64 0]) En90 (by kernel_rfl) rfl Hv88 rfl (by kernel_rfl) (by kernel_rfl) fun ac91 wo92 En93 Hv94 => ?_
  refine ⟨fun _ => Hv94.pick [1] (by kernel_rfl) (by decide), ?_⟩
  exact h_e ⟨ao80, cp81, En93.sub (by kernel_rfl), Hv94.pick [0, 1, 2] (by kernel_rfl) (by decide)⟩
 rintro ac95 wo96 ⟨ao59, cp60, En97, Hv98⟩
 refine then_normal ?_
 refine d_s [0,1,2,6,7] [] En97 fun ac99 En100 => ?_
 refine wp_ret ?_
 refine d_ret1 (t := 6) (v := .int .i64 (mayI name (List.length l) m)) En100 (by kernel_rfl) (by kernel_rfl) ?_
 rw [hm]
 exact ⟨ao59, cp60, rfl, Hv98.pick [1, 2, 0] (by kernel_rfl) (by decide)⟩

end Go.Proofs.Ytfeibokonhdgnaa
