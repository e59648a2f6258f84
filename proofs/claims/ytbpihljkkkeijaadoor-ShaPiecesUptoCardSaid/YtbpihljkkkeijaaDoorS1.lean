/- Layer 5: words turned, mixed. -/
import Derived.Test.YtbpihljkkkeijaaDoorShape
import Derived.Test.YtbpihljkkkeijaaDoorCopy
import Derived.Test.YtbpihljkkkeijaaDoorHeld
import Derived.Test.YtbpihljkkkeijaaDoorZero
import Derived.Test.YtbpihljkkkeijaaDoorDense
namespace Go.Proofs.YtbpihljkkkeijaaDoor
open Go.Dbr
set_option maxRecDepth 100000
set_option maxHeartbeats 2000000
set_option linter.unusedVariables false
set_option linter.unusedSimpArgs false

abbrev pt (b : Nat) : Value := .pointer (some (Addr.mk b 0 none))
abbrev ni (n : Nat) : Value := .int .i64 (n : Int)

def rotr32 (x : UInt32) (n : Nat) : UInt32 := (x >>> UInt32.ofNat n) ||| (x <<< UInt32.ofNat (32 - n))

theorem turned32_go (w : World) (x : UInt32) (n : Nat) (h0 : 0 < n) (hn : n < 32) : Calls Tryd.prog 47 #[uv32 x, ni n, .int .i64 32] w fun e w' => e = .returned (uv32 (rotr32 x n)) ∧ Ev w [] w' [] := by
 refine d_0 [(0, uv32 x), (1, ni n), (2, .int .i64 32)] 16 Go.Proofs.Tryd.func47 Go.Proofs.Tryd.ntmps47 (Heap.nil _) fun act0 En0 Hv0 => ?_
 refine d_s [0,1,2,6] [] En0 fun ac1 En2 => ?_
 refine wp_seq ?_
 refine r_c (fun ac wo => Env ac 16 [(6, uv32 ((x >>> UInt32.ofNat n) ||| (x <<< UInt32.ofNat (32 - n))))] ∧ Ev w [] wo []) ?_ ?_
 ·
  refine draw_any (by kernel_rfl) 10 (by kernel_rfl) ?_
  have wo3 := Hv0.trans (Ev.drew Hv0.heap)
  refine q_a [0,1] [] 8 En2 fun ac14 En15 => ?_
  refine q_g 2 En15 (fun _ => Go.Dbr.run_shr_u32 x .i64 n (by omega) _) fun ac16 En17 => ?_
  refine q_a [3,4,5,6] [(6, g_n (w_r (e := (32 : Int) - ((n : Nat) : Int)) (x := ((32 - n : Nat) : Int)) (by omega)))] 3 En17 fun ac18 En19 => ?_
  refine q_g 7 En19 (fun _ => Go.Dbr.run_shl_u32 x .i64 (32 - n) (by omega) _) fun ac20 En21 => ?_
  refine q_a [8,9] [(8, g_i .u32 (Go.Dbr.u32_or (x := x >>> UInt32.ofNat n) (y := x <<< UInt32.ofNat (32 - n)) rfl rfl))] 0 En21 fun ac22 En23 => ?_
  exact a_e ⟨En23.sb, wo3.pk []⟩
 rintro ac24 wo25 ⟨En26, Hv27⟩
 refine then_normal ?_
 refine wp_ret ?_
 refine d_ret1 (t := 6) (v := uv32 ((x >>> UInt32.ofNat n) ||| (x <<< UInt32.ofNat (32 - n)))) En26 (by kernel_rfl) (by kernel_rfl) ?_
 exact ⟨rfl, Hv27.pk []⟩

def rotr64 (x : UInt64) (n : Nat) : UInt64 := (x >>> UInt64.ofNat n) ||| (x <<< UInt64.ofNat (64 - n))

theorem turned64_go (w : World) (x : UInt64) (n : Nat) (h0 : 0 < n) (hn : n < 64) : Calls Tryd.prog 48 #[uv64 x, ni n, .int .i64 64] w fun e w' => e = .returned (uv64 (rotr64 x n)) ∧ Ev w [] w' [] := by
 refine d_0 [(0, uv64 x), (1, ni n), (2, .int .i64 64)] 16 Go.Proofs.Tryd.func48 Go.Proofs.Tryd.ntmps48 (Heap.nil _) fun act0 En0 Hv0 => ?_
 refine d_s [0,1,2,6] [] En0 fun ac1 En2 => ?_
 refine wp_seq ?_
 refine r_c (fun ac wo => Env ac 16 [(6, uv64 ((x >>> UInt64.ofNat n) ||| (x <<< UInt64.ofNat (64 - n))))] ∧ Ev w [] wo []) ?_ ?_
 ·
  refine draw_any (by kernel_rfl) 10 (by kernel_rfl) ?_
  have wo3 := Hv0.trans (Ev.drew Hv0.heap)
  refine q_a [0,1] [] 8 En2 fun ac14 En15 => ?_
  refine q_g 2 En15 (fun _ => Go.Dbr.run_shr_u64 x .i64 n (by omega) _) fun ac16 En17 => ?_
  refine q_a [3,4,5,6] [(6, g_n (w_r (e := (64 : Int) - ((n : Nat) : Int)) (x := ((64 - n : Nat) : Int)) (by omega)))] 3 En17 fun ac18 En19 => ?_
  refine q_g 7 En19 (fun _ => Go.Dbr.run_shl_u64 x .i64 (64 - n) (by omega) _) fun ac20 En21 => ?_
  refine q_a [8,9] [(8, g_i .u64 (Go.Dbr.u64_or (x := x >>> UInt64.ofNat n) (y := x <<< UInt64.ofNat (64 - n)) rfl rfl))] 0 En21 fun ac22 En23 => ?_
  exact a_e ⟨En23.sb, wo3.pk []⟩
 rintro ac24 wo25 ⟨En26, Hv27⟩
 refine then_normal ?_
 refine wp_ret ?_
 refine d_ret1 (t := 6) (v := uv64 ((x >>> UInt64.ofNat n) ||| (x <<< UInt64.ofNat (64 - n)))) En26 (by kernel_rfl) (by kernel_rfl) ?_
 exact ⟨rfl, Hv27.pk []⟩

def mix32 (x : UInt32) (i j k : Nat) (shift : Bool) : UInt32 := bif shift then (rotr32 x i ^^^ rotr32 x j) ^^^ (x >>> UInt32.ofNat k) else (rotr32 x i ^^^ rotr32 x j) ^^^ rotr32 x k

theorem mixed32_true (w : World) (x : UInt32) (i j k : Nat) (hi : 0 < i ∧ i < 32) (hj : 0 < j ∧ j < 32) (hk : 0 < k ∧ k < 32) : Calls Tryd.prog 44 #[uv32 x, .int .i64 32, .agg #[ni i, ni j, ni k], .bool true] w fun e w' => e = .returned (uv32 (mix32 x i j k true)) ∧ Ev w [] w' [] := by
 refine d_0 [(0, uv32 x), (1, .int .i64 32), (2, .agg #[ni i, ni j, ni k]), (3, .bool true)] 35 Go.Proofs.Tryd.func44 Go.Proofs.Tryd.ntmps44 (Heap.nil _) fun act0 En0 Hv0 => ?_
 refine wp_seq ?_
 refine region_from ?_
 refine f_o ?_
 refine m_m 64 [ni i, ni j, ni k] En0 Hv0 fun ac2 wo3 bk1 En4 Hv5 => ?_
 refine d_e [0,1,3,6,8] [] En4 fun ac6 En7 => ?_
 refine then_normal ?_
 refine wp_seq ?_
 refine r_c (fun ac wo => Env ac 35 [(0, uv32 x), (1, .int .i64 32), (3, .bool true), (6, pt bk1), (8, .int .u32 0), (9, uv32 ((rotr32 x i) ^^^ (rotr32 x j)))] ∧ Ev w [] wo [.box bk1 [ni i, ni j, ni k] 64]) ?_ ?_
 ·
  refine h_s (fun wv => Ev w [] wv [.box bk1 [ni i, ni j, ni k] 64]) [] 12 ?_
  have wo8 := Hv5.trans (Ev.drew Hv5.heap)
  refine q_s [0,1] [] 10 En7 (wo8.pk [0]) fun ac95 En96 => ?_
  refine q_l 0 2 En96 (wo8.pk [0]) fun ac97 En98 => ?_
  refine q_s [3,5,6] [] 6 En98 (wo8.pk [0]) fun ac99 En100 => ?_
  refine q_l 0 7 En100 (wo8.pk [0]) fun ac101 En102 => ?_
  refine q_s [8] [] 4 En102 (wo8.pk [0]) fun ac103 En104 => ?_
  refine q_t 4 ?_
  refine c_p En104 wo8 (turned32_go _ x i (by omega) (by omega)) fun ac109 wo106 En110 Hv111 => ?_
  refine ⟨fun _ => Hv111.pk [0], ?_⟩
  refine q_t 9 ?_
  refine c_p En110 Hv111 (turned32_go _ x j (by omega) (by omega)) fun ac116 wo113 En117 Hv118 => ?_
  refine ⟨fun _ => Hv118.pk [0], ?_⟩
  refine q_s [10,11] [(10, g_i .u32 (Go.Dbr.u32_xor (x := rotr32 x i) (y := rotr32 x j) rfl rfl))] 0 En117 (Hv118.pk [0]) fun ac119 En120 => ?_
  exact h_e ⟨En120.sb, Hv118.pk [0]⟩
 rintro ac121 wo122 ⟨En123, Hv124⟩
 refine then_normal ?_
 refine wp_seq ?_
 refine d_s [0,1,6,8,9,21] [] En123 fun ac125 En126 => ?_
 refine c_t En126 ?_
 refine wp_seq ?_
 refine region_from ?_
 refine d_k [0,1,6,8,9,22,23,24] [] 3 En126 fun ac127 En128 => ?_
 refine f_o ?_
 refine m_l 0 En128 Hv124 fun ac129 En130 => ?_
 refine f_o ?_
 refine q_v En130 (Go.Dbr.run_shr_u32 x .i64 k (by omega) _) fun ac131 En132 => ?_
 refine d_e [0,1,6,8,9] [(5, g_i .u32 (Go.Dbr.u32_xor (x := (rotr32 x i) ^^^ (rotr32 x j)) (y := x >>> UInt32.ofNat k) rfl rfl))] En132 fun ac133 En134 => ?_
 refine then_normal ?_
 refine wp_ret ?_
 refine then_ret ?_
 refine d_ret1 (t := 8) (v := uv32 (((rotr32 x i) ^^^ (rotr32 x j)) ^^^ (x >>> UInt32.ofNat k))) En134 (by kernel_rfl) (by kernel_rfl) ?_
 exact ⟨rfl, Hv124.pk []⟩

theorem mixed32_false (w : World) (x : UInt32) (i j k : Nat) (hi : 0 < i ∧ i < 32) (hj : 0 < j ∧ j < 32) (hk : 0 < k ∧ k < 32) : Calls Tryd.prog 44 #[uv32 x, .int .i64 32, .agg #[ni i, ni j, ni k], .bool false] w fun e w' => e = .returned (uv32 (mix32 x i j k false)) ∧ Ev w [] w' [] := by
 refine d_0 [(0, uv32 x), (1, .int .i64 32), (2, .agg #[ni i, ni j, ni k]), (3, .bool false)] 35 Go.Proofs.Tryd.func44 Go.Proofs.Tryd.ntmps44 (Heap.nil _) fun act0 En0 Hv0 => ?_
 refine wp_seq ?_
 refine region_from ?_
 refine f_o ?_
 refine m_m 64 [ni i, ni j, ni k] En0 Hv0 fun ac2 wo3 bk1 En4 Hv5 => ?_
 refine d_e [0,1,3,6,8] [] En4 fun ac6 En7 => ?_
 refine then_normal ?_
 refine wp_seq ?_
 refine r_c (fun ac wo => Env ac 35 [(0, uv32 x), (1, .int .i64 32), (3, .bool false), (6, pt bk1), (8, .int .u32 0), (9, uv32 ((rotr32 x i) ^^^ (rotr32 x j)))] ∧ Ev w [] wo [.box bk1 [ni i, ni j, ni k] 64]) ?_ ?_
 ·
  refine h_s (fun wv => Ev w [] wv [.box bk1 [ni i, ni j, ni k] 64]) [] 12 ?_
  have wo8 := Hv5.trans (Ev.drew Hv5.heap)
  refine q_s [0,1] [] 10 En7 (wo8.pk [0]) fun ac95 En96 => ?_
  refine q_l 0 2 En96 (wo8.pk [0]) fun ac97 En98 => ?_
  refine q_s [3,5,6] [] 6 En98 (wo8.pk [0]) fun ac99 En100 => ?_
  refine q_l 0 7 En100 (wo8.pk [0]) fun ac101 En102 => ?_
  refine q_s [8] [] 4 En102 (wo8.pk [0]) fun ac103 En104 => ?_
  refine q_t 4 ?_
  refine c_p En104 wo8 (turned32_go _ x i (by omega) (by omega)) fun ac109 wo106 En110 Hv111 => ?_
  refine ⟨fun _ => Hv111.pk [0], ?_⟩
  refine q_t 9 ?_
  refine c_p En110 Hv111 (turned32_go _ x j (by omega) (by omega)) fun ac116 wo113 En117 Hv118 => ?_
  refine ⟨fun _ => Hv118.pk [0], ?_⟩
  refine q_s [10,11] [(10, g_i .u32 (Go.Dbr.u32_xor (x := rotr32 x i) (y := rotr32 x j) rfl rfl))] 0 En117 (Hv118.pk [0]) fun ac119 En120 => ?_
  exact h_e ⟨En120.sb, Hv118.pk [0]⟩
 rintro ac121 wo122 ⟨En123, Hv124⟩
 refine then_normal ?_
 refine wp_seq ?_
 refine d_s [0,1,6,8,9,21] [] En123 fun ac125 En126 => ?_
 refine c_f En126 ?_
 refine wp_skip ?_
 refine then_normal ?_
 refine wp_seq ?_
 refine region_from ?_
 refine d_k [0,1,6,8,9,28,29,30] [] 3 En126 fun ac127 En128 => ?_
 refine f_o ?_
 refine m_l 0 En128 Hv124 fun ac129 En130 => ?_
 refine d_k [0,1,6,8,9,28,29,31,32] [] 5 En130 fun ac131 En132 => ?_
 refine f_o ?_
 refine c_p En132 Hv124 (turned32_go _ x k (by omega) (by omega)) fun ac137 wo134 En138 Hv139 => ?_
 refine d_e [0,1,6,8,9] [(6, g_i .u32 (Go.Dbr.u32_xor (x := (rotr32 x i) ^^^ (rotr32 x j)) (y := rotr32 x k) rfl rfl))] En138 fun ac140 En141 => ?_
 refine then_normal ?_
 refine wp_ret ?_
 refine d_ret1 (t := 8) (v := uv32 (((rotr32 x i) ^^^ (rotr32 x j)) ^^^ (rotr32 x k))) En141 (by kernel_rfl) (by kernel_rfl) ?_
 exact ⟨rfl, Hv139.pk []⟩

def mix64 (x : UInt64) (i j k : Nat) (shift : Bool) : UInt64 := bif shift then (rotr64 x i ^^^ rotr64 x j) ^^^ (x >>> UInt64.ofNat k) else (rotr64 x i ^^^ rotr64 x j) ^^^ rotr64 x k

theorem mixed64_true (w : World) (x : UInt64) (i j k : Nat) (hi : 0 < i ∧ i < 64) (hj : 0 < j ∧ j < 64) (hk : 0 < k ∧ k < 64) : Calls Tryd.prog 45 #[uv64 x, .int .i64 64, .agg #[ni i, ni j, ni k], .bool true] w fun e w' => e = .returned (uv64 (mix64 x i j k true)) ∧ Ev w [] w' [] := by
 refine d_0 [(0, uv64 x), (1, .int .i64 64), (2, .agg #[ni i, ni j, ni k]), (3, .bool true)] 35 Go.Proofs.Tryd.func45 Go.Proofs.Tryd.ntmps45 (Heap.nil _) fun act0 En0 Hv0 => ?_
 refine wp_seq ?_
 refine region_from ?_
 refine f_o ?_
 refine m_m 64 [ni i, ni j, ni k] En0 Hv0 fun ac2 wo3 bk1 En4 Hv5 => ?_
 refine d_e [0,1,3,6,8] [] En4 fun ac6 En7 => ?_
 refine then_normal ?_
 refine wp_seq ?_
 refine r_c (fun ac wo => Env ac 35 [(0, uv64 x), (1, .int .i64 64), (3, .bool true), (6, pt bk1), (8, .int .u64 0), (9, uv64 ((rotr64 x i) ^^^ (rotr64 x j)))] ∧ Ev w [] wo [.box bk1 [ni i, ni j, ni k] 64]) ?_ ?_
 ·
  refine h_s (fun wv => Ev w [] wv [.box bk1 [ni i, ni j, ni k] 64]) [] 12 ?_
  have wo8 := Hv5.trans (Ev.drew Hv5.heap)
  refine q_s [0,1] [] 10 En7 (wo8.pk [0]) fun ac95 En96 => ?_
  refine q_l 0 2 En96 (wo8.pk [0]) fun ac97 En98 => ?_
  refine q_s [3,5,6] [] 6 En98 (wo8.pk [0]) fun ac99 En100 => ?_
  refine q_l 0 7 En100 (wo8.pk [0]) fun ac101 En102 => ?_
  refine q_s [8] [] 4 En102 (wo8.pk [0]) fun ac103 En104 => ?_
  refine q_t 4 ?_
  refine c_p En104 wo8 (turned64_go _ x i (by omega) (by omega)) fun ac109 wo106 En110 Hv111 => ?_
  refine ⟨fun _ => Hv111.pk [0], ?_⟩
  refine q_t 9 ?_
  refine c_p En110 Hv111 (turned64_go _ x j (by omega) (by omega)) fun ac116 wo113 En117 Hv118 => ?_
  refine ⟨fun _ => Hv118.pk [0], ?_⟩
  refine q_s [10,11] [(10, g_i .u64 (Go.Dbr.u64_xor (x := rotr64 x i) (y := rotr64 x j) rfl rfl))] 0 En117 (Hv118.pk [0]) fun ac119 En120 => ?_
  exact h_e ⟨En120.sb, Hv118.pk [0]⟩
 rintro ac121 wo122 ⟨En123, Hv124⟩
 refine then_normal ?_
 refine wp_seq ?_
 refine d_s [0,1,6,8,9,21] [] En123 fun ac125 En126 => ?_
 refine c_t En126 ?_
 refine wp_seq ?_
 refine region_from ?_
 refine d_k [0,1,6,8,9,22,23,24] [] 3 En126 fun ac127 En128 => ?_
 refine f_o ?_
 refine m_l 0 En128 Hv124 fun ac129 En130 => ?_
 refine f_o ?_
 refine q_v En130 (Go.Dbr.run_shr_u64 x .i64 k (by omega) _) fun ac131 En132 => ?_
 refine d_e [0,1,6,8,9] [(5, g_i .u64 (Go.Dbr.u64_xor (x := (rotr64 x i) ^^^ (rotr64 x j)) (y := x >>> UInt64.ofNat k) rfl rfl))] En132 fun ac133 En134 => ?_
 refine then_normal ?_
 refine wp_ret ?_
 refine then_ret ?_
 refine d_ret1 (t := 8) (v := uv64 (((rotr64 x i) ^^^ (rotr64 x j)) ^^^ (x >>> UInt64.ofNat k))) En134 (by kernel_rfl) (by kernel_rfl) ?_
 exact ⟨rfl, Hv124.pk []⟩

theorem mixed64_false (w : World) (x : UInt64) (i j k : Nat) (hi : 0 < i ∧ i < 64) (hj : 0 < j ∧ j < 64) (hk : 0 < k ∧ k < 64) : Calls Tryd.prog 45 #[uv64 x, .int .i64 64, .agg #[ni i, ni j, ni k], .bool false] w fun e w' => e = .returned (uv64 (mix64 x i j k false)) ∧ Ev w [] w' [] := by
 refine d_0 [(0, uv64 x), (1, .int .i64 64), (2, .agg #[ni i, ni j, ni k]), (3, .bool false)] 35 Go.Proofs.Tryd.func45 Go.Proofs.Tryd.ntmps45 (Heap.nil _) fun act0 En0 Hv0 => ?_
 refine wp_seq ?_
 refine region_from ?_
 refine f_o ?_
 refine m_m 64 [ni i, ni j, ni k] En0 Hv0 fun ac2 wo3 bk1 En4 Hv5 => ?_
 refine d_e [0,1,3,6,8] [] En4 fun ac6 En7 => ?_
 refine then_normal ?_
 refine wp_seq ?_
 refine r_c (fun ac wo => Env ac 35 [(0, uv64 x), (1, .int .i64 64), (3, .bool false), (6, pt bk1), (8, .int .u64 0), (9, uv64 ((rotr64 x i) ^^^ (rotr64 x j)))] ∧ Ev w [] wo [.box bk1 [ni i, ni j, ni k] 64]) ?_ ?_
 ·
  refine h_s (fun wv => Ev w [] wv [.box bk1 [ni i, ni j, ni k] 64]) [] 12 ?_
  have wo8 := Hv5.trans (Ev.drew Hv5.heap)
  refine q_s [0,1] [] 10 En7 (wo8.pk [0]) fun ac95 En96 => ?_
  refine q_l 0 2 En96 (wo8.pk [0]) fun ac97 En98 => ?_
  refine q_s [3,5,6] [] 6 En98 (wo8.pk [0]) fun ac99 En100 => ?_
  refine q_l 0 7 En100 (wo8.pk [0]) fun ac101 En102 => ?_
  refine q_s [8] [] 4 En102 (wo8.pk [0]) fun ac103 En104 => ?_
  refine q_t 4 ?_
  refine c_p En104 wo8 (turned64_go _ x i (by omega) (by omega)) fun ac109 wo106 En110 Hv111 => ?_
  refine ⟨fun _ => Hv111.pk [0], ?_⟩
  refine q_t 9 ?_
  refine c_p En110 Hv111 (turned64_go _ x j (by omega) (by omega)) fun ac116 wo113 En117 Hv118 => ?_
  refine ⟨fun _ => Hv118.pk [0], ?_⟩
  refine q_s [10,11] [(10, g_i .u64 (Go.Dbr.u64_xor (x := rotr64 x i) (y := rotr64 x j) rfl rfl))] 0 En117 (Hv118.pk [0]) fun ac119 En120 => ?_
  exact h_e ⟨En120.sb, Hv118.pk [0]⟩
 rintro ac121 wo122 ⟨En123, Hv124⟩
 refine then_normal ?_
 refine wp_seq ?_
 refine d_s [0,1,6,8,9,21] [] En123 fun ac125 En126 => ?_
 refine c_f En126 ?_
 refine wp_skip ?_
 refine then_normal ?_
 refine wp_seq ?_
 refine region_from ?_
 refine d_k [0,1,6,8,9,28,29,30] [] 3 En126 fun ac127 En128 => ?_
 refine f_o ?_
 refine m_l 0 En128 Hv124 fun ac129 En130 => ?_
 refine d_k [0,1,6,8,9,28,29,31,32] [] 5 En130 fun ac131 En132 => ?_
 refine f_o ?_
 refine c_p En132 Hv124 (turned64_go _ x k (by omega) (by omega)) fun ac137 wo134 En138 Hv139 => ?_
 refine d_e [0,1,6,8,9] [(6, g_i .u64 (Go.Dbr.u64_xor (x := (rotr64 x i) ^^^ (rotr64 x j)) (y := rotr64 x k) rfl rfl))] En138 fun ac140 En141 => ?_
 refine then_normal ?_
 refine wp_ret ?_
 refine d_ret1 (t := 8) (v := uv64 (((rotr64 x i) ^^^ (rotr64 x j)) ^^^ (rotr64 x k))) En141 (by kernel_rfl) (by kernel_rfl) ?_
 exact ⟨rfl, Hv139.pk []⟩

end Go.Proofs.YtbpihljkkkeijaaDoor
