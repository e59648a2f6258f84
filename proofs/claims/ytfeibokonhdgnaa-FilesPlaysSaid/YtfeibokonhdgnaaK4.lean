/- Layer 2: files are torn, settled, read. -/
import Derived.Test.YtfeibokonhdgnaaK3
namespace Go.Proofs.Ytfeibokonhdgnaa
open Go.Dbr
set_option maxRecDepth 100000
set_option maxHeartbeats 2000000
set_option linter.unusedVariables false
set_option linter.unusedSimpArgs false

theorem may_bad {name : Bs} {n : Nat} {m : FM} (h : ¬ mayI name n m = 0) : (mayI name n m == 0) = false := beq_eq_false_iff_ne.2 h
/-- what is read -/
def rdL (lo lf : Bs) (k : Nat) : Bs := lf.take k ++ lo.drop (min k lo.length)
theorem rd_flat {a : Option Addr} {c : Nat} {b : Option Addr} {d : Nat} (lo lf : Bs) (k : Nat) : List.flatMap (fun s : Sl UInt8 => s.l) [⟨a, c, List.take k lf⟩, ⟨b, d, List.drop (min k lo.length) lo⟩] = rdL lo lf k := by simp [rdL]
theorem min_n (a b : Nat) : (if ((b : Nat) : Int) < ((a : Nat) : Int) then ((b : Nat) : Int) else ((a : Nat) : Int)) = ((min a b : Nat) : Int) := by split <;> omega
theorem two_f {a b : Option Addr} {c d n m : Nat} {x y : Bs} (hn : n = x.length) (hm : m = y.length) : [Value.slice a n c, Value.slice b m d] = List.flatMap (fun s : Sl UInt8 => s.f) [⟨a, c, x⟩, ⟨b, d, y⟩] := by subst hn hm; rfl
theorem rd_0 (lo : Bs) : rdL lo [] 0 = lo := by simp [rdL]

theorem tear_may (w : World) (sb mb : Nat) (m : FM) (name : List UInt8) (hnm : List.length name ≤ 140737488351232) (a : Option Addr) (c : Nat) (l : List UInt8) (i : InB w [.box sb [.map (some mb)] 52, .map mb (kvs FV.v m)] a c l) (k : Int) (hm : ¬ mayI name (List.length l) m = 0) (hH : Heap w [.box sb [.map (some mb)] 52, .map mb (kvs FV.v m)]) : Calls Try.prog 10 #[pt sb, .string (bstr name), .slice a (List.length l) c, .int .i64 k] w fun e w' => e = .returned (.int .i64 (mayI name (List.length l) m)) ∧ Ev w [.box sb [.map (some mb)] 52, .map mb (kvs FV.v m)] w' [.box sb [.map (some mb)] 52, .map mb (kvs FV.v m)] := by
 have hsm := i.small
 have hcp := i.cap
 refine d_0 [(0, pt sb), (1, .string (bstr name)), (2, .slice a (List.length l) c), (3, .int .i64 k)] 47 Go.Proofs.Try.func10 Go.Proofs.Try.ntmps10 (hH) fun act0 En0 Hv0 => ?_
 refine d_s [0,1,2,3,8] [] En0 fun ac1 En2 => ?_
 refine wp_seq ?_
 refine wp_seq ?_
 refine region_from ?_
 refine d_k [0,1,2,3,8,11,12,13] [] 3 En2 fun ac3 En4 => ?_
 refine f_o ?_
 refine c_l [0,1] (M := [.box sb [.map (some mb)] 52, .map mb (kvs FV.v m)]) En4 Hv0 (fun hM5 => may_go _ sb mb m name (by first | assumption | omega) a (List.length l) c (by first | omega | (simp; done) | (simp; omega)) hM5) ?_
 rintro _ wo6 ⟨rfl, he7⟩
 refine ⟨_, _, [.box sb [.map (some mb)] 52, .map mb (kvs FV.v m)], rfl, he7, by kernel_rfl, fun ac9 En10 Hv11 => ?_⟩
 refine d_e [0,1,2,3,8,9] [] En10 fun ac12 En13 => ?_
 refine then_normal ?_
 refine d_s [0,1,2,3,8,9,16] [(1, g_b (show (mayI name (List.length l) m != (0 : Int)) = true from (by rw [bne, may_bad hm]; rfl)))] En13 fun ac14 En15 => ?_
 refine c_t En15 ?_
 refine d_s [0,1,2,3,8,9] [] En15 fun ac16 En17 => ?_
 refine wp_ret ?_
 refine then_ret ?_
 refine d_ret1 (t := 8) (v := .int .i64 (mayI name (List.length l) m)) En17 (by kernel_rfl) (by kernel_rfl) ?_
 exact ⟨rfl, Hv11.pick [0, 1] (by kernel_rfl) (by decide)⟩

theorem tear_torn (w : World) (sb mb : Nat) (m : FM) (name : List UInt8) (hnm : List.length name ≤ 140737488351232) (a : Option Addr) (c : Nat) (l : List UInt8) (i : InB w [.box sb [.map (some mb)] 52, .map mb (kvs FV.v m)] a c l) (k : Int) (hm : mayI name (List.length l) m = 0) (a1 : Option Addr) (n1 c1 : Nat) (b1 : Option Addr) (m1 d1 : Nat) (k1 : Nat) (hx : oldF m name = ⟨a1, n1, c1, b1, m1, d1, true, k1⟩) (hH : Heap w [.box sb [.map (some mb)] 52, .map mb (kvs FV.v m)]) : Calls Try.prog 10 #[pt sb, .string (bstr name), .slice a (List.length l) c, .int .i64 k] w fun e w' => e = .returned (.int .i64 25) ∧ Ev w [.box sb [.map (some mb)] 52, .map mb (kvs FV.v m)] w' [.box sb [.map (some mb)] 52, .map mb (kvs FV.v m)] := by
 have hsm := i.small
 have hcp := i.cap
 refine d_0 [(0, pt sb), (1, .string (bstr name)), (2, .slice a (List.length l) c), (3, .int .i64 k)] 47 Go.Proofs.Try.func10 Go.Proofs.Try.ntmps10 (hH) fun act0 En0 Hv0 => ?_
 refine d_s [0,1,2,3,8] [] En0 fun ac1 En2 => ?_
 refine wp_seq ?_
 refine wp_seq ?_
 refine region_from ?_
 refine d_k [0,1,2,3,8,11,12,13] [] 3 En2 fun ac3 En4 => ?_
 refine f_o ?_
 refine c_l [0,1] (M := [.box sb [.map (some mb)] 52, .map mb (kvs FV.v m)]) En4 Hv0 (fun hM5 => may_go _ sb mb m name (by first | assumption | omega) a (List.length l) c (by first | omega | (simp; done) | (simp; omega)) hM5) ?_
 rintro _ wo6 ⟨rfl, he7⟩
 refine ⟨_, _, [.box sb [.map (some mb)] 52, .map mb (kvs FV.v m)], rfl, he7, by kernel_rfl, fun ac9 En10 Hv11 => ?_⟩
 refine d_e [0,1,2,3,8,9] [] En10 fun ac12 En13 => ?_
 refine then_normal ?_
 refine d_s [0,1,2,3,8,9,16] [(1, g_b (show (mayI name (List.length l) m != (0 : Int)) = false from (by rw [hm]; rfl)))] En13 fun ac14 En15 => ?_
 refine c_f En15 ?_
 refine wp_skip ?_
 refine then_normal ?_
 refine wp_seq ?_
 refine region_from ?_
 refine d_k [0,1,2,3,8,9,20] [] 3 En15 fun ac16 En17 => ?_
 refine f_o ?_
 refine m_l 0 En17 Hv11 fun ac18 En19 => ?_
 refine d_k [0,1,2,3,8,9,21,22] [] 5 En19 fun ac20 En21 => ?_
 refine f_o ?_
 refine op_lookup (d := some 23) (t := 50) (kt := 9) (et := 55) (b := mb) (j := 1) (k := name) (m := m) (f := FV.v) (z := .agg #[.slice none 0 0, .slice none 0 0, .bool false, .int .i64 0]) (v := .agg #[.slice a1 n1 c1, .slice b1 m1 d1, .bool true, ni k1]) (ok := false) En21 (by kernel_rfl) Hv11 rfl (by kernel_rfl) (by kernel_rfl) (by kernel_rfl) (look_f hx) fun ac22 En23 => ?_
 refine f_o ?_
 refine m_z 55 [.slice none 0 0, .slice none 0 0, .bool false, .int .i64 0] En23 Hv11 fun ac25 wo26 bk24 En27 Hv28 => ?_
 refine f_o ?_
 refine m_g 2 0 4 [.slice a1 n1 c1, .slice b1 m1 d1, .bool true, ni k1] [.slice a1 n1 c1, .slice b1 m1 d1, .bool true, ni k1] [.box sb [.map (some mb)] 52, .map mb (kvs FV.v m), .box bk24 [.slice a1 n1 c1, .slice b1 m1 d1, .bool true, ni k1] 55] En27 Hv28 rfl rfl (by simp) (one_all (by kernel_rfl)) rfl rfl fun ac29 wo30 En31 Hv32 => ?_
 refine f_e ?_
 refine then_normal ?_
 refine wp_seq ?_
 refine wp_block ?_
 refine wp_seq ?_
 refine region_from ?_
 refine d_k [0,1,2,3,8,9,10,25] [] 1 En31 fun ac33 En34 => ?_
 refine f_o ?_
 refine m_l 2 En34 Hv32 fun ac35 En36 => ?_
 refine d_e [0,1,2,3,8,9,10,24] [] En36 fun ac37 En38 => ?_
 refine then_normal ?_
 refine c_t En38 ?_
 refine d_s [0,1,2,3,8,9,10] [] En38 fun ac39 En40 => ?_
 refine wp_ret ?_
 refine block_ret ?_
 refine then_ret ?_
 refine d_ret1 (t := 8) (v := .int .i64 25) En40 (by kernel_rfl) (by kernel_rfl) ?_
 exact ⟨rfl, Hv32.pick [0, 1] (by kernel_rfl) (by decide)⟩

theorem tear_ok (w : World) (sb mb : Nat) (m : FM) (name : List UInt8) (hnm : List.length name ≤ 140737488351232) (a : Option Addr) (c : Nat) (l : List UInt8) (i : InB w [.box sb [.map (some mb)] 52, .map mb (kvs FV.v m)] a c l) (k : Nat) (hk : k ≤ List.length l) (hm : mayI name (List.length l) m = 0) (a1 : Option Addr) (n1 c1 : Nat) (b1 : Option Addr) (m1 d1 : Nat) (k1 : Nat) (hx : oldF m name = ⟨a1, n1, c1, b1, m1, d1, false, k1⟩) (hH : Heap w [.box sb [.map (some mb)] 52, .map mb (kvs FV.v m)]) : Calls Try.prog 10 #[pt sb, .string (bstr name), .slice a (List.length l) c, ni k] w fun e w' => ∃ ao co, e = .returned (.int .i64 0) ∧ Ev w [.box sb [.map (some mb)] 52, .map mb (kvs FV.v m)] w' [.box sb [.map (some mb)] 52, .map mb (kvs FV.v (kvPut name ⟨a1, n1, c1, ao, List.length l, co, true, k⟩ m)), .vec ao co 1 (bys l) 5] := by
 have hsm := i.small
 have hcp := i.cap
 refine d_0 [(0, pt sb), (1, .string (bstr name)), (2, .slice a (List.length l) c), (3, ni k)] 47 Go.Proofs.Try.func10 Go.Proofs.Try.ntmps10 (hH) fun act0 En0 Hv0 => ?_
 refine d_s [0,1,2,3,8] [] En0 fun ac1 En2 => ?_
 refine wp_seq ?_
 refine wp_seq ?_
 refine region_from ?_
 refine d_k [0,1,2,3,8,11,12,13] [] 3 En2 fun ac3 En4 => ?_
 refine f_o ?_
 refine c_l [0,1] (M := [.box sb [.map (some mb)] 52, .map mb (kvs FV.v m)]) En4 Hv0 (fun hM5 => may_go _ sb mb m name (by first | assumption | omega) a (List.length l) c (by first | omega | (simp; done) | (simp; omega)) hM5) ?_
 rintro _ wo6 ⟨rfl, he7⟩
 refine ⟨_, _, [.box sb [.map (some mb)] 52, .map mb (kvs FV.v m)], rfl, he7, by kernel_rfl, fun ac9 En10 Hv11 => ?_⟩
 refine d_e [0,1,2,3,8,9] [] En10 fun ac12 En13 => ?_
 refine then_normal ?_
 refine d_s [0,1,2,3,8,9,16] [(1, g_b (show (mayI name (List.length l) m != (0 : Int)) = false from (by rw [hm]; rfl)))] En13 fun ac14 En15 => ?_
 refine c_f En15 ?_
 refine wp_skip ?_
 refine then_normal ?_
 refine wp_seq ?_
 refine region_from ?_
 refine d_k [0,1,2,3,8,9,20] [] 3 En15 fun ac16 En17 => ?_
 refine f_o ?_
 refine m_l 0 En17 Hv11 fun ac18 En19 => ?_
 refine d_k [0,1,2,3,8,9,21,22] [] 5 En19 fun ac20 En21 => ?_
 refine f_o ?_
 refine op_lookup (d := some 23) (t := 50) (kt := 9) (et := 55) (b := mb) (j := 1) (k := name) (m := m) (f := FV.v) (z := .agg #[.slice none 0 0, .slice none 0 0, .bool false, .int .i64 0]) (v := .agg #[.slice a1 n1 c1, .slice b1 m1 d1, .bool false, ni k1]) (ok := false) En21 (by kernel_rfl) Hv11 rfl (by kernel_rfl) (by kernel_rfl) (by kernel_rfl) (look_f hx) fun ac22 En23 => ?_
 refine f_o ?_
 refine m_z 55 [.slice none 0 0, .slice none 0 0, .bool false, .int .i64 0] En23 Hv11 fun ac25 wo26 bk24 En27 Hv28 => ?_
 refine f_o ?_
 refine m_g 2 0 4 [.slice a1 n1 c1, .slice b1 m1 d1, .bool false, ni k1] [.slice a1 n1 c1, .slice b1 m1 d1, .bool false, ni k1] [.box sb [.map (some mb)] 52, .map mb (kvs FV.v m), .box bk24 [.slice a1 n1 c1, .slice b1 m1 d1, .bool false, ni k1] 55] En27 Hv28 rfl rfl (by simp) (one_all (by kernel_rfl)) rfl rfl fun ac29 wo30 En31 Hv32 => ?_
 refine f_e ?_
 refine then_normal ?_
 refine wp_seq ?_
 refine wp_block ?_
 refine wp_seq ?_
 refine region_from ?_
 refine d_k [0,1,2,3,8,9,10,25] [] 1 En31 fun ac33 En34 => ?_
 refine f_o ?_
 refine m_l 2 En34 Hv32 fun ac35 En36 => ?_
 refine d_e [0,1,2,3,8,9,10,24] [] En36 fun ac37 En38 => ?_
 refine then_normal ?_
 refine c_f En38 ?_
 refine wp_seq ?_
 refine region_from ?_
 refine d_k [0,1,2,3,8,9,10,30] [] 3 En38 fun ac39 En40 => ?_
 rcases Bool.eq_false_or_eq_true (decide (((k : Nat) : Int) < (0 : Int))) with hb41 | hb41
 ·
  have En42 := En40.fx (t := 30) (congrArg Value.bool hb41)
  have hp43 : ((k : Nat) : Int) < (0 : Int) := of_decide_eq_true hb41
  refine d_e [0,1,2,3,8,9,10,27] [] En42 fun ac44 En45 => ?_
  refine then_normal ?_
  refine c_t En45 ?_
  refine d_s [0,1,2,3,8,9,10] [] En45 fun ac46 En47 => ?_
  refine wp_ret ?_
  refine block_ret ?_
  refine then_ret ?_
  refine d_ret1 (t := 8) (v := .int .i64 1) En47 (by kernel_rfl) (by kernel_rfl) ?_
  exfalso; omega
 ·
  have En48 := En40.fx (t := 30) (congrArg Value.bool hb41)
  have hp49 : ¬ (((k : Nat) : Int) < (0 : Int)) := of_decide_eq_false hb41
  refine d_e [0,1,2,3,8,9,10,27] [] En48 fun ac50 En51 => ?_
  refine then_normal ?_
  refine c_d (((k : Nat) : Int) > ((List.length l : Nat) : Int)) En51 (fun hc52 => ?_) (fun hc52 => ?_)
  ·
   refine d_s [0,1,2,3,8,9,10] [] En51 fun ac53 En54 => ?_
   refine wp_ret ?_
   refine block_ret ?_
   refine then_ret ?_
   refine d_ret1 (t := 8) (v := .int .i64 1) En54 (by kernel_rfl) (by kernel_rfl) ?_
   exfalso; omega
  ·
   refine wp_skip ?_
   refine block_normal ?_
   refine then_normal ?_
   refine wp_seq ?_
   refine r_c (fun ac wo => ∃ (ao138 : _) (cp139 : _), Env ac 47 [(0, pt sb), (1, .string (bstr name)), (2, .slice a (List.length l) c), (3, ni k), (8, .int .i64 0), (9, .int .i64 (mayI name (List.length l) m)), (10, pt bk24)] ∧ Ev w [.box sb [.map (some mb)] 52, .map mb (kvs FV.v m)] wo [.vec ao138 cp139 1 (bys l) 5, .box sb [.map (some mb)] 52, .map mb (kvs FV.v (kvPut name ⟨a1, n1, c1, ao138, List.length l, cp139, true, k⟩ m)), .box bk24 [.slice a1 n1 c1, .slice b1 m1 d1, .bool false, ni k1] 55]) ?_ ?_
   ·
    refine h_s (fun wv => Ev w [.box sb [.map (some mb)] 52, .map mb (kvs FV.v m)] wv [.box sb [.map (some mb)] 52, .box bk24 [.slice a1 n1 c1, .slice b1 m1 d1, .bool false, ni k1] 55]) [] 12 ?_
    have wo55 := Hv32.trans (Ev.drew Hv32.heap)
    refine q_s [0,1,2] [] 9 En51 (wo55.pick [0, 2] (by kernel_rfl) (by decide)) fun ac153 En154 => ?_
    refine q_l 0 3 En154 (wo55.pick [0, 2] (by kernel_rfl) (by decide)) fun ac155 En156 => ?_
    refine q_s [4,5] [] 6 En156 (wo55.pick [0, 2] (by kernel_rfl) (by decide)) fun ac157 En158 => ?_
    refine q_l 1 6 En158 (wo55.pick [0, 2] (by kernel_rfl) (by decide)) fun ac159 En160 => ?_
    refine q_s [7,9] [] 3 En160 (wo55.pick [0, 2] (by kernel_rfl) (by decide)) fun ac161 En162 => ?_
    refine q_t 8 ?_
    refine c_0 En162 wo55 (clone_go _ a c l ((i.ev wo55).pick [] (by kernel_rfl))) ?_
    rintro _ wo166 ⟨ao163, cp164, rfl, he167⟩
    refine ⟨_, _, _, rfl, he167, rfl, fun ac169 En170 Hv171 => ?_⟩
    refine ⟨fun _ => Hv171.pick [1, 3] (by kernel_rfl) (by decide), ?_⟩
    refine q_s [10] [] 1 En170 (Hv171.pick [1, 3] (by kernel_rfl) (by decide)) fun ac172 En173 => ?_
    refine q_t 11 ?_
    refine op_update (d := none) (t := 50) (kt := 9) (et := 55) (b := mb) (j := 2) (k := name) (m := m) (f := FV.v) (v := ⟨a1, n1, c1, ao163, List.length l, cp164, true, k⟩) (V := .agg #[.slice a1 n1 c1, .slice ao163 (List.length l) cp164, .bool true, ni k]) En173 (by kernel_rfl) rfl Hv171 rfl (by kernel_rfl) (by kernel_rfl) fun ac174 wo175 En176 Hv177 => ?_
    refine ⟨fun _ => Hv177.pick [1, 3] (by kernel_rfl) (by decide), ?_⟩
    exact h_e ⟨ao163, cp164, En176.sub (by kernel_rfl), Hv177.pick [0, 1, 2, 3] (by kernel_rfl) (by decide)⟩
   rintro ac178 wo179 ⟨ao138, cp139, En180, Hv181⟩
   refine then_normal ?_
   refine d_s [0,1,2,3,8,9,10] [] En180 fun ac182 En183 => ?_
   refine wp_ret ?_
   refine d_ret1 (t := 8) (v := .int .i64 0) En183 (by kernel_rfl) (by kernel_rfl) ?_
   exact ⟨ao138, cp139, rfl, Hv181.pick [1, 2, 0] (by kernel_rfl) (by decide)⟩

theorem tear_arg (w : World) (sb mb : Nat) (m : FM) (name : List UInt8) (hnm : List.length name ≤ 140737488351232) (a : Option Addr) (c : Nat) (l : List UInt8) (i : InB w [.box sb [.map (some mb)] 52, .map mb (kvs FV.v m)] a c l) (k : Int) (hk : k < 0 ∨ (List.length l : Int) < k) (hm : mayI name (List.length l) m = 0) (a1 : Option Addr) (n1 c1 : Nat) (b1 : Option Addr) (m1 d1 : Nat) (k1 : Nat) (hx : oldF m name = ⟨a1, n1, c1, b1, m1, d1, false, k1⟩) (hH : Heap w [.box sb [.map (some mb)] 52, .map mb (kvs FV.v m)]) : Calls Try.prog 10 #[pt sb, .string (bstr name), .slice a (List.length l) c, .int .i64 k] w fun e w' => e = .returned (.int .i64 1) ∧ Ev w [.box sb [.map (some mb)] 52, .map mb (kvs FV.v m)] w' [.box sb [.map (some mb)] 52, .map mb (kvs FV.v m)] := by
 have hsm := i.small
 have hcp := i.cap
 refine d_0 [(0, pt sb), (1, .string (bstr name)), (2, .slice a (List.length l) c), (3, .int .i64 k)] 47 Go.Proofs.Try.func10 Go.Proofs.Try.ntmps10 (hH) fun act0 En0 Hv0 => ?_
 refine d_s [0,1,2,3,8] [] En0 fun ac1 En2 => ?_
 refine wp_seq ?_
 refine wp_seq ?_
 refine region_from ?_
 refine d_k [0,1,2,3,8,11,12,13] [] 3 En2 fun ac3 En4 => ?_
 refine f_o ?_
 refine c_l [0,1] (M := [.box sb [.map (some mb)] 52, .map mb (kvs FV.v m)]) En4 Hv0 (fun hM5 => may_go _ sb mb m name (by first | assumption | omega) a (List.length l) c (by first | omega | (simp; done) | (simp; omega)) hM5) ?_
 rintro _ wo6 ⟨rfl, he7⟩
 refine ⟨_, _, [.box sb [.map (some mb)] 52, .map mb (kvs FV.v m)], rfl, he7, by kernel_rfl, fun ac9 En10 Hv11 => ?_⟩
 refine d_e [0,1,2,3,8,9] [] En10 fun ac12 En13 => ?_
 refine then_normal ?_
 refine d_s [0,1,2,3,8,9,16] [(1, g_b (show (mayI name (List.length l) m != (0 : Int)) = false from (by rw [hm]; rfl)))] En13 fun ac14 En15 => ?_
 refine c_f En15 ?_
 refine wp_skip ?_
 refine then_normal ?_
 refine wp_seq ?_
 refine region_from ?_
 refine d_k [0,1,2,3,8,9,20] [] 3 En15 fun ac16 En17 => ?_
 refine f_o ?_
 refine m_l 0 En17 Hv11 fun ac18 En19 => ?_
 refine d_k [0,1,2,3,8,9,21,22] [] 5 En19 fun ac20 En21 => ?_
 refine f_o ?_
 refine op_lookup (d := some 23) (t := 50) (kt := 9) (et := 55) (b := mb) (j := 1) (k := name) (m := m) (f := FV.v) (z := .agg #[.slice none 0 0, .slice none 0 0, .bool false, .int .i64 0]) (v := .agg #[.slice a1 n1 c1, .slice b1 m1 d1, .bool false, ni k1]) (ok := false) En21 (by kernel_rfl) Hv11 rfl (by kernel_rfl) (by kernel_rfl) (by kernel_rfl) (look_f hx) fun ac22 En23 => ?_
 refine f_o ?_
 refine m_z 55 [.slice none 0 0, .slice none 0 0, .bool false, .int .i64 0] En23 Hv11 fun ac25 wo26 bk24 En27 Hv28 => ?_
 refine f_o ?_
 refine m_g 2 0 4 [.slice a1 n1 c1, .slice b1 m1 d1, .bool false, ni k1] [.slice a1 n1 c1, .slice b1 m1 d1, .bool false, ni k1] [.box sb [.map (some mb)] 52, .map mb (kvs FV.v m), .box bk24 [.slice a1 n1 c1, .slice b1 m1 d1, .bool false, ni k1] 55] En27 Hv28 rfl rfl (by simp) (one_all (by kernel_rfl)) rfl rfl fun ac29 wo30 En31 Hv32 => ?_
 refine f_e ?_
 refine then_normal ?_
 refine wp_seq ?_
 refine wp_block ?_
 refine wp_seq ?_
 refine region_from ?_
 refine d_k [0,1,2,3,8,9,10,25] [] 1 En31 fun ac33 En34 => ?_
 refine f_o ?_
 refine m_l 2 En34 Hv32 fun ac35 En36 => ?_
 refine d_e [0,1,2,3,8,9,10,24] [] En36 fun ac37 En38 => ?_
 refine then_normal ?_
 refine c_f En38 ?_
 refine wp_seq ?_
 refine region_from ?_
 refine d_k [0,1,2,3,8,9,10,30] [] 3 En38 fun ac39 En40 => ?_
 rcases Bool.eq_false_or_eq_true (decide (k < (0 : Int))) with hb41 | hb41
 ·
  have En42 := En40.fx (t := 30) (congrArg Value.bool hb41)
  have hp43 : k < (0 : Int) := of_decide_eq_true hb41
  refine d_e [0,1,2,3,8,9,10,27] [] En42 fun ac44 En45 => ?_
  refine then_normal ?_
  refine c_t En45 ?_
  refine d_s [0,1,2,3,8,9,10] [] En45 fun ac46 En47 => ?_
  refine wp_ret ?_
  refine block_ret ?_
  refine then_ret ?_
  refine d_ret1 (t := 8) (v := .int .i64 1) En47 (by kernel_rfl) (by kernel_rfl) ?_
  exact ⟨rfl, Hv32.pick [0, 1] (by kernel_rfl) (by decide)⟩
 ·
  have En48 := En40.fx (t := 30) (congrArg Value.bool hb41)
  have hp49 : ¬ (k < (0 : Int)) := of_decide_eq_false hb41
  refine d_e [0,1,2,3,8,9,10,27] [] En48 fun ac50 En51 => ?_
  refine then_normal ?_
  refine c_d (k > ((List.length l : Nat) : Int)) En51 (fun hc52 => ?_) (fun hc52 => ?_)
  ·
   refine d_s [0,1,2,3,8,9,10] [] En51 fun ac53 En54 => ?_
   refine wp_ret ?_
   refine block_ret ?_
   refine then_ret ?_
   refine d_ret1 (t := 8) (v := .int .i64 1) En54 (by kernel_rfl) (by kernel_rfl) ?_
   exact ⟨rfl, Hv32.pick [0, 1] (by kernel_rfl) (by decide)⟩
  ·
   exfalso; omega

theorem settle_none (w : World) (sb mb : Nat) (m : FM) (name : List UInt8) (hnm : List.length name ≤ 140737488351232) (ht : (kvAt m name).isSome = false) (hH : Heap w [.box sb [.map (some mb)] 52, .map mb (kvs FV.v m)]) : Calls Try.prog 14 #[pt sb, .string (bstr name)] w fun e w' => e = .returned (.int .i64 22) ∧ Ev w [.box sb [.map (some mb)] 52, .map mb (kvs FV.v m)] w' [.box sb [.map (some mb)] 52, .map mb (kvs FV.v m)] := by
 obtain ⟨a1, n1, c1, b1, m1, d1, t1, k1, hx⟩ : ∃ a1 n1 c1 b1 m1 d1 t1 k1, oldF m name = ⟨a1, n1, c1, b1, m1, d1, t1, k1⟩ := ⟨_, _, _, _, _, _, _, _, rfl⟩
 refine d_0 [(0, pt sb), (1, .string (bstr name))] 31 Go.Proofs.Try.func14 Go.Proofs.Try.ntmps14 (hH) fun act0 En0 Hv0 => ?_
 refine d_s [0,1,4] [] En0 fun ac1 En2 => ?_
 refine wp_seq ?_
 refine region_from ?_
 refine d_k [0,1,4,10] [] 3 En2 fun ac3 En4 => ?_
 refine f_o ?_
 refine m_l 0 En4 Hv0 fun ac5 En6 => ?_
 refine d_k [0,1,4,11,12] [] 5 En6 fun ac7 En8 => ?_
 refine f_o ?_
 refine op_lookup (d := some 13) (t := 50) (kt := 9) (et := 55) (b := mb) (j := 1) (k := name) (m := m) (f := FV.v) (z := .agg #[.slice none 0 0, .slice none 0 0, .bool false, .int .i64 0]) (v := .tuple #[.agg #[.slice a1 n1 c1, .slice b1 m1 d1, .bool t1, ni k1], .bool false]) (ok := true) En8 (by kernel_rfl) Hv0 rfl (by kernel_rfl) (by kernel_rfl) (by kernel_rfl) (look_t hx ht) fun ac9 En10 => ?_
 refine d_k [0,1,4,14,15] [] 9 En10 fun ac11 En12 => ?_
 refine f_o ?_
 refine m_z 55 [.slice none 0 0, .slice none 0 0, .bool false, .int .i64 0] En12 Hv0 fun ac14 wo15 bk13 En16 Hv17 => ?_
 refine f_o ?_
 refine m_g 2 0 4 [.slice a1 n1 c1, .slice b1 m1 d1, .bool t1, ni k1] [.slice a1 n1 c1, .slice b1 m1 d1, .bool t1, ni k1] [.box sb [.map (some mb)] 52, .map mb (kvs FV.v m), .box bk13 [.slice a1 n1 c1, .slice b1 m1 d1, .bool t1, ni k1] 55] En16 Hv17 rfl rfl (by simp) (one_all (by kernel_rfl)) rfl rfl fun ac18 wo19 En20 Hv21 => ?_
 refine d_e [0,1,4,5,6] [] En20 fun ac22 En23 => ?_
 refine then_normal ?_
 refine wp_seq ?_
 refine wp_block ?_
 refine d_s [0,1,4,5,16] [] En23 fun ac24 En25 => ?_
 refine c_t En25 ?_
 refine d_s [0,1,4,5] [] En25 fun ac26 En27 => ?_
 refine wp_ret ?_
 refine block_ret ?_
 refine then_ret ?_
 refine d_ret1 (t := 4) (v := .int .i64 22) En27 (by kernel_rfl) (by kernel_rfl) ?_
 exact ⟨rfl, Hv21.pick [0, 1] (by kernel_rfl) (by decide)⟩

theorem settle_not (w : World) (sb mb : Nat) (m : FM) (name : List UInt8) (hnm : List.length name ≤ 140737488351232) (ht : (kvAt m name).isSome = true) (a1 : Option Addr) (n1 c1 : Nat) (b1 : Option Addr) (m1 d1 : Nat) (k1 : Nat) (hx : oldF m name = ⟨a1, n1, c1, b1, m1, d1, false, k1⟩) (hH : Heap w [.box sb [.map (some mb)] 52, .map mb (kvs FV.v m)]) : Calls Try.prog 14 #[pt sb, .string (bstr name)] w fun e w' => e = .returned (.int .i64 25) ∧ Ev w [.box sb [.map (some mb)] 52, .map mb (kvs FV.v m)] w' [.box sb [.map (some mb)] 52, .map mb (kvs FV.v m)] := by
 refine d_0 [(0, pt sb), (1, .string (bstr name))] 31 Go.Proofs.Try.func14 Go.Proofs.Try.ntmps14 (hH) fun act0 En0 Hv0 => ?_
 refine d_s [0,1,4] [] En0 fun ac1 En2 => ?_
 refine wp_seq ?_
 refine region_from ?_
 refine d_k [0,1,4,10] [] 3 En2 fun ac3 En4 => ?_
 refine f_o ?_
 refine m_l 0 En4 Hv0 fun ac5 En6 => ?_
 refine d_k [0,1,4,11,12] [] 5 En6 fun ac7 En8 => ?_
 refine f_o ?_
 refine op_lookup (d := some 13) (t := 50) (kt := 9) (et := 55) (b := mb) (j := 1) (k := name) (m := m) (f := FV.v) (z := .agg #[.slice none 0 0, .slice none 0 0, .bool false, .int .i64 0]) (v := .tuple #[.agg #[.slice a1 n1 c1, .slice b1 m1 d1, .bool false, ni k1], .bool true]) (ok := true) En8 (by kernel_rfl) Hv0 rfl (by kernel_rfl) (by kernel_rfl) (by kernel_rfl) (look_t hx ht) fun ac9 En10 => ?_
 refine d_k [0,1,4,14,15] [] 9 En10 fun ac11 En12 => ?_
 refine f_o ?_
 refine m_z 55 [.slice none 0 0, .slice none 0 0, .bool false, .int .i64 0] En12 Hv0 fun ac14 wo15 bk13 En16 Hv17 => ?_
 refine f_o ?_
 refine m_g 2 0 4 [.slice a1 n1 c1, .slice b1 m1 d1, .bool false, ni k1] [.slice a1 n1 c1, .slice b1 m1 d1, .bool false, ni k1] [.box sb [.map (some mb)] 52, .map mb (kvs FV.v m), .box bk13 [.slice a1 n1 c1, .slice b1 m1 d1, .bool false, ni k1] 55] En16 Hv17 rfl rfl (by simp) (one_all (by kernel_rfl)) rfl rfl fun ac18 wo19 En20 Hv21 => ?_
 refine d_e [0,1,4,5,6] [] En20 fun ac22 En23 => ?_
 refine then_normal ?_
 refine wp_seq ?_
 refine wp_block ?_
 refine d_s [0,1,4,5,16] [] En23 fun ac24 En25 => ?_
 refine c_f En25 ?_
 refine wp_seq ?_
 refine region_from ?_
 refine d_k [0,1,4,5,20] [] 1 En25 fun ac26 En27 => ?_
 refine f_o ?_
 refine m_l 2 En27 Hv21 fun ac28 En29 => ?_
 refine d_e [0,1,4,5,19] [] En29 fun ac30 En31 => ?_
 refine then_normal ?_
 refine c_t En31 ?_
 refine d_s [0,1,4,5] [] En31 fun ac32 En33 => ?_
 refine wp_ret ?_
 refine block_ret ?_
 refine then_ret ?_
 refine d_ret1 (t := 4) (v := .int .i64 25) En33 (by kernel_rfl) (by kernel_rfl) ?_
 exact ⟨rfl, Hv21.pick [0, 1] (by kernel_rfl) (by decide)⟩

theorem settle_ok (w : World) (sb mb : Nat) (m : FM) (name : List UInt8) (hnm : List.length name ≤ 140737488351232) (ht : (kvAt m name).isSome = true) (a1 : Option Addr) (n1 c1 : Nat) (b1 : Option Addr) (m1 d1 : Nat) (k1 : Nat) (hx : oldF m name = ⟨a1, n1, c1, b1, m1, d1, true, k1⟩) (hH : Heap w [.box sb [.map (some mb)] 52, .map mb (kvs FV.v m)]) : Calls Try.prog 14 #[pt sb, .string (bstr name)] w fun e w' => e = .returned (.int .i64 0) ∧ Ev w [.box sb [.map (some mb)] 52, .map mb (kvs FV.v m)] w' [.box sb [.map (some mb)] 52, .map mb (kvs FV.v (kvPut name ⟨b1, m1, d1, none, 0, 0, false, 0⟩ m))] := by
 refine d_0 [(0, pt sb), (1, .string (bstr name))] 31 Go.Proofs.Try.func14 Go.Proofs.Try.ntmps14 (hH) fun act0 En0 Hv0 => ?_
 refine d_s [0,1,4] [] En0 fun ac1 En2 => ?_
 refine wp_seq ?_
 refine region_from ?_
 refine d_k [0,1,4,10] [] 3 En2 fun ac3 En4 => ?_
 refine f_o ?_
 refine m_l 0 En4 Hv0 fun ac5 En6 => ?_
 refine d_k [0,1,4,11,12] [] 5 En6 fun ac7 En8 => ?_
 refine f_o ?_
 refine op_lookup (d := some 13) (t := 50) (kt := 9) (et := 55) (b := mb) (j := 1) (k := name) (m := m) (f := FV.v) (z := .agg #[.slice none 0 0, .slice none 0 0, .bool false, .int .i64 0]) (v := .tuple #[.agg #[.slice a1 n1 c1, .slice b1 m1 d1, .bool true, ni k1], .bool true]) (ok := true) En8 (by kernel_rfl) Hv0 rfl (by kernel_rfl) (by kernel_rfl) (by kernel_rfl) (look_t hx ht) fun ac9 En10 => ?_
 refine d_k [0,1,4,14,15] [] 9 En10 fun ac11 En12 => ?_
 refine f_o ?_
 refine m_z 55 [.slice none 0 0, .slice none 0 0, .bool false, .int .i64 0] En12 Hv0 fun ac14 wo15 bk13 En16 Hv17 => ?_
 refine f_o ?_
 refine m_g 2 0 4 [.slice a1 n1 c1, .slice b1 m1 d1, .bool true, ni k1] [.slice a1 n1 c1, .slice b1 m1 d1, .bool true, ni k1] [.box sb [.map (some mb)] 52, .map mb (kvs FV.v m), .box bk13 [.slice a1 n1 c1, .slice b1 m1 d1, .bool true, ni k1] 55] En16 Hv17 rfl rfl (by simp) (one_all (by kernel_rfl)) rfl rfl fun ac18 wo19 En20 Hv21 => ?_
 refine d_e [0,1,4,5,6] [] En20 fun ac22 En23 => ?_
 refine then_normal ?_
 refine wp_seq ?_
 refine wp_block ?_
 refine d_s [0,1,4,5,16] [] En23 fun ac24 En25 => ?_
 refine c_f En25 ?_
 refine wp_seq ?_
 refine region_from ?_
 refine d_k [0,1,4,5,20] [] 1 En25 fun ac26 En27 => ?_
 refine f_o ?_
 refine m_l 2 En27 Hv21 fun ac28 En29 => ?_
 refine d_e [0,1,4,5,19] [] En29 fun ac30 En31 => ?_
 refine then_normal ?_
 refine c_f En31 ?_
 refine wp_skip ?_
 refine block_normal ?_
 refine then_normal ?_
 refine wp_seq ?_
 refine r_c (fun ac wo => Env ac 31 [(0, pt sb), (1, .string (bstr name)), (4, .int .i64 0), (5, pt bk13)] ∧ Ev w [.box sb [.map (some mb)] 52, .map mb (kvs FV.v m)] wo [.box sb [.map (some mb)] 52, .map mb (kvs FV.v (kvPut name ⟨b1, m1, d1, none, 0, 0, false, 0⟩ m)), .box bk13 [.slice a1 n1 c1, .slice b1 m1 d1, .bool true, ni k1] 55]) ?_ ?_
 ·
  refine s_g0 [(0, pt sb), (1, .string (bstr name)), (4, .int .i64 0), (5, pt bk13)] [0,1,2,3,4,5,6,7] [(23, pt sb), (24, pt sb), (25, pt sb), (26, .map (some mb)), (27, .string (bstr name)), (28, .pointer (some ⟨bk13, 1, none⟩)), (29, .slice b1 m1 d1), (30, .agg #[.slice b1 m1 d1, .slice none 0 0, .bool false, .int .i64 0])] 1 [(0, pt sb), (1, .string (bstr name)), (4, .int .i64 0), (5, pt bk13), (26, .map (some mb)), (27, .string (bstr name)), (30, .agg #[.slice b1 m1 d1, .slice none 0 0, .bool false, .int .i64 0])] (En31.sb) (Hv21.trans (Ev.drew Hv21.heap)) ?_ fun ac42 wo43 En44 Hv45 => ?_
  ·
   refine s_p [] ?_
   refine s_p [] ?_
   refine s_p [] ?_
   refine s_l 0 ?_
   refine s_p [] ?_
   refine s_p [] ?_
   refine s_l 2 ?_
   refine s_p [] ?_
   exact s_n
  refine q_u 8 ?_
  refine op_update (d := none) (t := 50) (kt := 9) (et := 55) (b := mb) (j := 1) (k := name) (m := m) (f := FV.v) (v := ⟨b1, m1, d1, none, 0, 0, false, 0⟩) (V := .agg #[.slice b1 m1 d1, .slice none 0 0, .bool false, .int .i64 0]) En44 (by kernel_rfl) rfl Hv45 rfl (by kernel_rfl) (by kernel_rfl) fun ac50 wo51 En52 Hv53 => ?_
  exact a_e ⟨En52.sub (by kernel_rfl), Hv53.pick [0, 1, 2] (by kernel_rfl) (by decide)⟩
 rintro ac54 wo55 ⟨En56, Hv57⟩
 refine then_normal ?_
 refine d_s [0,1,4,5] [] En56 fun ac58 En59 => ?_
 refine wp_ret ?_
 refine d_ret1 (t := 4) (v := .int .i64 0) En59 (by kernel_rfl) (by kernel_rfl) ?_
 exact ⟨rfl, Hv57.pick [0, 1] (by kernel_rfl) (by decide)⟩

theorem torn_go (w : World) (sb mb : Nat) (m : FM) (name : List UInt8) (hnm : List.length name ≤ 140737488351232) (a1 : Option Addr) (n1 c1 : Nat) (b1 : Option Addr) (m1 d1 : Nat) (t1 : Bool) (k1 : Nat) (hx : oldF m name = ⟨a1, n1, c1, b1, m1, d1, t1, k1⟩) (hH : Heap w [.box sb [.map (some mb)] 52, .map mb (kvs FV.v m)]) : Calls Try.prog 13 #[pt sb, .string (bstr name)] w fun e w' => e = .returned (.bool t1) ∧ Ev w [.box sb [.map (some mb)] 52, .map mb (kvs FV.v m)] w' [.box sb [.map (some mb)] 52, .map mb (kvs FV.v m)] := by
 refine d_0 [(0, pt sb), (1, .string (bstr name))] 12 Go.Proofs.Try.func13 Go.Proofs.Try.ntmps13 (hH) fun act0 En0 Hv0 => ?_
 refine d_s [0,1,4] [] En0 fun ac1 En2 => ?_
 refine wp_seq ?_
 refine region_from ?_
 refine d_k [1,4,7] [] 3 En2 fun ac3 En4 => ?_
 refine f_o ?_
 refine m_l 0 En4 Hv0 fun ac5 En6 => ?_
 refine d_k [4,8,9] [] 5 En6 fun ac7 En8 => ?_
 refine f_o ?_
 refine op_lookup (d := some 10) (t := 50) (kt := 9) (et := 55) (b := mb) (j := 1) (k := name) (m := m) (f := FV.v) (z := .agg #[.slice none 0 0, .slice none 0 0, .bool false, .int .i64 0]) (v := .agg #[.slice a1 n1 c1, .slice b1 m1 d1, .bool t1, ni k1]) (ok := false) En8 (by kernel_rfl) Hv0 rfl (by kernel_rfl) (by kernel_rfl) (by kernel_rfl) (look_f hx) fun ac9 En10 => ?_
 refine d_e [4] [] En10 fun ac11 En12 => ?_
 refine then_normal ?_
 refine wp_ret ?_
 refine d_ret1 (t := 4) (v := .bool t1) En12 (by kernel_rfl) (by kernel_rfl) ?_
 exact ⟨rfl, Hv0.pick [0, 1] (by kernel_rfl) (by decide)⟩

theorem read_none (w : World) (sb mb : Nat) (m : FM) (name : List UInt8) (hnm : List.length name ≤ 140737488351232) (ht : (kvAt m name).isSome = false) (hH : Heap w [.box sb [.map (some mb)] 52, .map mb (kvs FV.v m)]) : Calls Try.prog 11 #[pt sb, .string (bstr name)] w fun e w' => e = .returned (.tuple #[.slice none 0 0, .int .i64 22]) ∧ Ev w [.box sb [.map (some mb)] 52, .map mb (kvs FV.v m)] w' [.box sb [.map (some mb)] 52, .map mb (kvs FV.v m)] := by
 obtain ⟨a1, n1, c1, b1, m1, d1, t1, k1, hx⟩ : ∃ a1 n1 c1 b1 m1 d1 t1 k1, oldF m name = ⟨a1, n1, c1, b1, m1, d1, t1, k1⟩ := ⟨_, _, _, _, _, _, _, _, rfl⟩
 refine d_0 [(0, pt sb), (1, .string (bstr name))] 35 Go.Proofs.Try.func11 Go.Proofs.Try.ntmps11 (hH) fun act0 En0 Hv0 => ?_
 refine d_s [0,1,4,5] [] En0 fun ac1 En2 => ?_
 refine wp_seq ?_
 refine region_from ?_
 refine d_k [1,4,5,11] [] 3 En2 fun ac3 En4 => ?_
 refine f_o ?_
 refine m_l 0 En4 Hv0 fun ac5 En6 => ?_
 refine d_k [4,5,12,13] [] 5 En6 fun ac7 En8 => ?_
 refine f_o ?_
 refine op_lookup (d := some 14) (t := 50) (kt := 9) (et := 55) (b := mb) (j := 1) (k := name) (m := m) (f := FV.v) (z := .agg #[.slice none 0 0, .slice none 0 0, .bool false, .int .i64 0]) (v := .tuple #[.agg #[.slice a1 n1 c1, .slice b1 m1 d1, .bool t1, ni k1], .bool false]) (ok := true) En8 (by kernel_rfl) Hv0 rfl (by kernel_rfl) (by kernel_rfl) (by kernel_rfl) (look_t hx ht) fun ac9 En10 => ?_
 refine d_k [4,5,15,16] [] 9 En10 fun ac11 En12 => ?_
 refine f_o ?_
 refine m_z 55 [.slice none 0 0, .slice none 0 0, .bool false, .int .i64 0] En12 Hv0 fun ac14 wo15 bk13 En16 Hv17 => ?_
 refine f_o ?_
 refine m_g 2 0 4 [.slice a1 n1 c1, .slice b1 m1 d1, .bool t1, ni k1] [.slice a1 n1 c1, .slice b1 m1 d1, .bool t1, ni k1] [.box sb [.map (some mb)] 52, .map mb (kvs FV.v m), .box bk13 [.slice a1 n1 c1, .slice b1 m1 d1, .bool t1, ni k1] 55] En16 Hv17 rfl rfl (by simp) (one_all (by kernel_rfl)) rfl rfl fun ac18 wo19 En20 Hv21 => ?_
 refine d_e [4,5,6,7] [] En20 fun ac22 En23 => ?_
 refine then_normal ?_
 refine wp_seq ?_
 refine d_s [4,5,6,18] [] En23 fun ac24 En25 => ?_
 refine c_t En25 ?_
 refine d_s [4,5,6] [] En25 fun ac26 En27 => ?_
 refine wp_ret ?_
 refine then_ret ?_
 refine d_ret2 (t := 4) (u := 5) (v := .slice none 0 0) (x := .int .i64 22) En27 (by kernel_rfl) (by kernel_rfl) (by kernel_rfl) ?_
 exact ⟨rfl, Hv21.pick [0, 1] (by kernel_rfl) (by decide)⟩

theorem read_go (w : World) (sb mb : Nat) (m : FM) (name : List UInt8) (hnm : List.length name ≤ 140737488351232) (ht : (kvAt m name).isSome = true) (lo lf : List UInt8) (a1 : Option Addr) (c1 : Nat) (b1 : Option Addr) (d1 : Nat) (t1 : Bool) (k1 : Nat) (hx : oldF m name = ⟨a1, List.length lo, c1, b1, List.length lf, d1, t1, k1⟩) (iA : InB w [.box sb [.map (some mb)] 52, .map mb (kvs FV.v m)] a1 c1 lo) (iB : InB w [.box sb [.map (some mb)] 52, .map mb (kvs FV.v m)] b1 d1 lf) (hA : List.length lo ≤ 65536) (hB : List.length lf ≤ 65536) (hk : k1 ≤ List.length lf) (hH : Heap w [.box sb [.map (some mb)] 52, .map mb (kvs FV.v m)]) : Calls Try.prog 11 #[pt sb, .string (bstr name)] w fun e w' => ∃ ao co, e = .returned (.tuple #[.slice ao (List.length (rdL lo lf k1)) co, .int .i64 0]) ∧ Ev w [.box sb [.map (some mb)] 52, .map mb (kvs FV.v m)] w' [.box sb [.map (some mb)] 52, .map mb (kvs FV.v m), .vec ao co 1 (bys (rdL lo lf k1)) 5] := by
 have hsa := iA.small
 have hca := iA.cap
 have hcb := iB.cap
 refine d_0 [(0, pt sb), (1, .string (bstr name))] 35 Go.Proofs.Try.func11 Go.Proofs.Try.ntmps11 (hH) fun act0 En0 Hv0 => ?_
 refine d_s [0,1,4,5] [] En0 fun ac1 En2 => ?_
 refine wp_seq ?_
 refine region_from ?_
 refine d_k [1,4,5,11] [] 3 En2 fun ac3 En4 => ?_
 refine f_o ?_
 refine m_l 0 En4 Hv0 fun ac5 En6 => ?_
 refine d_k [4,5,12,13] [] 5 En6 fun ac7 En8 => ?_
 refine f_o ?_
 refine op_lookup (d := some 14) (t := 50) (kt := 9) (et := 55) (b := mb) (j := 1) (k := name) (m := m) (f := FV.v) (z := .agg #[.slice none 0 0, .slice none 0 0, .bool false, .int .i64 0]) (v := .tuple #[.agg #[.slice a1 (List.length lo) c1, .slice b1 (List.length lf) d1, .bool t1, ni k1], .bool true]) (ok := true) En8 (by kernel_rfl) Hv0 rfl (by kernel_rfl) (by kernel_rfl) (by kernel_rfl) (look_t hx ht) fun ac9 En10 => ?_
 refine d_k [4,5,15,16] [] 9 En10 fun ac11 En12 => ?_
 refine f_o ?_
 refine m_z 55 [.slice none 0 0, .slice none 0 0, .bool false, .int .i64 0] En12 Hv0 fun ac14 wo15 bk13 En16 Hv17 => ?_
 refine f_o ?_
 refine m_g 2 0 4 [.slice a1 (List.length lo) c1, .slice b1 (List.length lf) d1, .bool t1, ni k1] [.slice a1 (List.length lo) c1, .slice b1 (List.length lf) d1, .bool t1, ni k1] [.box sb [.map (some mb)] 52, .map mb (kvs FV.v m), .box bk13 [.slice a1 (List.length lo) c1, .slice b1 (List.length lf) d1, .bool t1, ni k1] 55] En16 Hv17 rfl rfl (by simp) (one_all (by kernel_rfl)) rfl rfl fun ac18 wo19 En20 Hv21 => ?_
 refine d_e [4,5,6,7] [] En20 fun ac22 En23 => ?_
 refine then_normal ?_
 refine wp_seq ?_
 refine d_s [4,5,6,18] [] En23 fun ac24 En25 => ?_
 refine c_f En25 ?_
 refine wp_skip ?_
 refine then_normal ?_
 refine wp_seq ?_
 refine r_c (fun ac wo => ∃ (ao77 : _) (cp78 : _), Env ac 35 [(4, .slice ao77 (List.length (List.flatMap (fun s : Sl UInt8 => s.l) ([⟨b1, d1, List.take k1 lf⟩, ⟨cutAt a1 c1 (min k1 (List.length lo)) 1, c1 - (min k1 (List.length lo)), List.drop (min k1 (List.length lo)) lo⟩] : List (Sl UInt8)))) cp78), (5, .int .i64 0), (6, pt bk13)] ∧ Ev w [.box sb [.map (some mb)] 52, .map mb (kvs FV.v m)] wo [.vec ao77 cp78 1 (bys (List.flatMap (fun s : Sl UInt8 => s.l) ([⟨b1, d1, List.take k1 lf⟩, ⟨cutAt a1 c1 (min k1 (List.length lo)) 1, c1 - (min k1 (List.length lo)), List.drop (min k1 (List.length lo)) lo⟩] : List (Sl UInt8)))) 5, .box sb [.map (some mb)] 52, .map mb (kvs FV.v m), .box bk13 [.slice a1 (List.length lo) c1, .slice b1 (List.length lf) d1, .bool t1, ni k1] 55]) ?_ ?_
 ·
  refine s_g0 [(4, .slice none 0 0), (5, .int .i64 0), (6, pt bk13)] [0,1,2,3,4,5,6,7,8,9,10,11,12,13] [(19, .pointer (some ⟨bk13, 1, none⟩)), (20, .slice b1 (List.length lf) d1), (21, .pointer (some ⟨bk13, 3, none⟩)), (22, ni k1), (23, .slice b1 k1 d1), (24, pt bk13), (25, .slice a1 (List.length lo) c1), (26, .pointer (some ⟨bk13, 3, none⟩)), (27, ni k1), (28, pt bk13), (29, .slice a1 (List.length lo) c1), (30, .int .i64 ((List.length lo : Nat) : Int)), (31, .int .i64 ((min k1 (List.length lo) : Nat) : Int)), (32, .slice (cutAt a1 c1 (min k1 (List.length lo)) 1) ((List.length lo) - (min k1 (List.length lo))) (c1 - (min k1 (List.length lo))))] 4 [(4, .slice none 0 0), (5, .int .i64 0), (6, pt bk13), (23, .slice b1 k1 d1), (32, .slice (cutAt a1 c1 (min k1 (List.length lo)) 1) ((List.length lo) - (min k1 (List.length lo))) (c1 - (min k1 (List.length lo))))] (En25.sb) (Hv21.trans (Ev.drew Hv21.heap)) ?_ fun ac67 wo68 En69 Hv70 => ?_
  ·
   refine s_p [] ?_
   refine s_l 2 ?_
   refine s_p [] ?_
   refine s_l 2 ?_
   refine s_c (fun Mx36 ac37 wo38 En39 Hv40 => ?_) ?_
   ·
    have hcap41 := iB.cap
    refine op_slice0 (d := some 23) (t := 22) (e := 5) (sz := 1) (len := List.length lf) (cap := d1) (hi := k1) (ao := b1) (lov := none) (hiv := (some (ni k1))) En39 (by kernel_rfl) (by kernel_rfl) (by kernel_rfl) (by omega) (.inl ⟨rfl, rfl⟩) (.inr ⟨.i64, rfl⟩) ?_
    intro ac42 En43
    exact s_e En43 Hv40
   refine s_p [] ?_
   refine s_l 2 ?_
   refine s_p [] ?_
   refine s_l 2 ?_
   refine s_p [] ?_
   refine s_l 2 ?_
   refine s_p [] ?_
   refine s_p [(12, g_i .i64 (min_n k1 (List.length lo)))] ?_
   refine s_c (fun Mx59 ac60 wo61 En62 Hv63 => ?_) ?_
   ·
    have hcap64 := iA.cap
    refine op_slice (d := some 32) (t := 22) (e := 5) (sz := 1) (len := List.length lo) (cap := c1) (lo := min k1 (List.length lo)) (hi := List.length lo) (ao := a1) (lov := (some (.int .i64 ((min k1 (List.length lo) : Nat) : Int)))) (hiv := none) En62 (by kernel_rfl) (by kernel_rfl) (by kernel_rfl) (by omega) (by omega) (.inr ⟨.i64, rfl⟩) (.inl ⟨rfl, rfl⟩) ?_
    intro ac65 En66
    exact s_e En66 Hv63
   exact s_n
  refine q_u 14 ?_
  refine op_lit (d := some 33) (t := 64) (T := 22) (m := 2) (parts := #[(0, .slice b1 k1 d1), (1, .slice (cutAt a1 c1 (min k1 (List.length lo)) 1) ((List.length lo) - (min k1 (List.length lo))) (c1 - (min k1 (List.length lo))))]) (xs := [.slice b1 k1 d1, .slice (cutAt a1 c1 (min k1 (List.length lo)) 1) ((List.length lo) - (min k1 (List.length lo))) (c1 - (min k1 (List.length lo)))]) (sz := 1) En69 (by kernel_rfl) (by kernel_rfl) rfl (by decide) Hv70 ?_
  intro ac89 wo90 bk88 En91 Hv92
  refine q_u 15 ?_
  have Hv93 : Ev w [.box sb [.map (some mb)] 52, .map mb (kvs FV.v m)] wo90 [.box sb [.map (some mb)] 52, .map mb (kvs FV.v m), .box bk13 [.slice a1 (List.length lo) c1, .slice b1 (List.length lf) d1, .bool t1, ni k1] 55, .vec (some ⟨bk88, 0, none⟩) 2 1 (List.flatMap (fun s : Sl UInt8 => s.f) [⟨b1, d1, List.take k1 lf⟩, ⟨cutAt a1 c1 (min k1 (List.length lo)) 1, c1 - (min k1 (List.length lo)), List.drop (min k1 (List.length lo)) lo⟩]) 22] := by have h := Hv92; rw [two_f (x := (List.take k1 lf)) (y := (List.drop (min k1 (List.length lo)) lo)) (by rw [List.length_take]; omega) (List.length_drop).symm] at h; exact h
  refine c_0 En91 Hv93 (concat_go _ (some ⟨bk88, 0, none⟩) 2 2 ([⟨b1, d1, List.take k1 lf⟩, ⟨cutAt a1 c1 (min k1 (List.length lo)) 1, c1 - (min k1 (List.length lo)), List.drop (min k1 (List.length lo)) lo⟩] : List (Sl UInt8)) (by rfl) ⟨Hv93.heap.ro (k := 3) rfl [] (by kernel_rfl) rfl, (fun e => by cases e), (by simp), (by simp), (List.forall_mem_cons.2 ⟨(((iB.ev Hv93).pick [] (by kernel_rfl)).take k1), (List.forall_mem_cons.2 ⟨(((iA.ev Hv93).pick [] (by kernel_rfl)).drop (min k1 (List.length lo)) (by omega)), (fun x h => absurd h List.not_mem_nil)⟩)⟩)⟩ (by simp; omega)) ?_
  rintro _ wo97 ⟨ao94, cp95, rfl, he98⟩
  refine ⟨_, _, _, rfl, he98, rfl, fun ac100 En101 Hv102 => ?_⟩
  refine q_a [16,17] [] 0 En101 fun ac103 En104 => ?_
  exact a_e ⟨ao94, cp95, En104.sub (by kernel_rfl), Hv102.pick [0, 1, 2, 3] (by kernel_rfl) (by decide)⟩
 rintro ac105 wo106 ⟨ao77, cp78, En107, Hv108⟩
 refine then_normal ?_
 refine wp_ret ?_
 refine d_ret2 (t := 4) (u := 5) (v := .slice ao77 (List.length (List.flatMap (fun s : Sl UInt8 => s.l) ([⟨b1, d1, List.take k1 lf⟩, ⟨cutAt a1 c1 (min k1 (List.length lo)) 1, c1 - (min k1 (List.length lo)), List.drop (min k1 (List.length lo)) lo⟩] : List (Sl UInt8)))) cp78) (x := .int .i64 0) En107 (by kernel_rfl) (by kernel_rfl) (by kernel_rfl) ?_
 rw [rd_flat] at Hv108
 rw [rd_flat]
 exact ⟨ao77, cp78, rfl, Hv108.pick [1, 2, 0] (by kernel_rfl) (by decide)⟩

end Go.Proofs.Ytfeibokonhdgnaa
