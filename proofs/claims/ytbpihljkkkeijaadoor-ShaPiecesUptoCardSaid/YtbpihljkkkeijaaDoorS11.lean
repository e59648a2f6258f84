/- Layer 5: the document: what is padded; words turned. -/
import Derived.Test.YtbpihljkkkeijaaDoorS9
namespace Go.Proofs.YtbpihljkkkeijaaDoor
open Go.Dbr
set_option maxRecDepth 100000
set_option maxHeartbeats 2000000
set_option linter.unusedVariables false
set_option linter.unusedSimpArgs false

theorem rest32_mod (al : List UInt8) : (rest32 al).length = al.length % 64 := by unfold rest32; rw [List.length_drop]; omega
theorem rest64_mod (al : List UInt8) : (rest64 al).length = al.length % 128 := by unfold rest64; rw [List.length_drop]; omega
theorem app_b1 {n l j g : Nat} (h : g = l + 2 + j + n) (hs : l ≤ 140737488353280) (hj : j < 128) (hn : n ≤ 20) : (g + 1) * 1 ≤ 140737488355328 := by omega
theorem app_b2 {n l j g : Nat} (h : g = l + 2 + j + n) (hs : l ≤ 140737488353280) (hj : j < 128) (hn : n ≤ 20) : g + 1 ≤ maxLen := by unfold maxLen; omega
theorem app_n {n l j g : Nat} (h : g = l + 2 + j + n) : g + 1 = l + 2 + j + (n + 1) := by omega
theorem pad_go1 (al : List UInt8) : padH 1 al = padB 64 (al.length % 64) al.length := by unfold padH; rw [if_pos rfl]; unfold restH; rw [if_pos rfl, rest32_mod]
theorem pad_go2 {h : Int} (hh : h = 2 ∨ h = 3) (al : List UInt8) : padH h al = padB 128 (al.length % 128) al.length := by unfold padH; rw [if_neg (by omega)]; unfold restH; rw [if_neg (by omega), rest64_mod]

theorem padded32_ref (w : World) (ax : Option Addr) (nx cx : Nat) (lx : List UInt8) (ex : nx = List.length lx) (ix : InB w [] ax cx lx) : Calls Tryd.prog 41 #[.slice ax nx cx, .int .i64 64] w fun e w' => ∃ ao co, e = .returned (.slice ao (List.length (lx ++ padB 64 (List.length lx % 64) (List.length lx))) co) ∧ Ev w [] w' [.vec ao co 1 (bys (lx ++ padB 64 (List.length lx % 64) (List.length lx))) 5] := by
 subst ex
 have hs := ix.small
 have hcx := ix.cap
 refine d_0 [(0, .slice ax (List.length lx) cx), (1, .int .i64 64)] 52 Go.Proofs.Tryd.func41 Go.Proofs.Tryd.ntmps41 (Heap.nil _) fun act0 En0 Hv0 => ?_
 refine wp_seq ?_
 refine d_r [0,1,4] [] En0 fun ac1 En2 => ?_
 refine then_normal ?_
 refine wp_seq ?_
 refine region_from ?_
 refine f_o ?_
 refine op_lit (d := some 9) (t := 23) (T := 5) (m := 0) (parts := #[]) (xs := bys []) (sz := 1) En2 (by kernel_rfl) (by kernel_rfl) rfl (by decide) Hv0 ?_
 intro ac4 wo5 bk3 En6 Hv7
 refine d_k [0,1,4,9,10] [] 2 En6 fun ac8 En9 => ?_
 refine f_o ?_
 have hsm10 := ix.small
 refine op_append (d := some 11) (t := 23) (tx := 23) (ty := 23) (k := 0) (p := 0) (m := List.length lx) (x := .slice ax (List.length lx) cx) (bytes := 1) En9 (by kernel_rfl) Hv7 rfl rfl (Reads.src (size := 1) (tx := 23) (e' := 5) (by kernel_rfl) (ix.ev Hv7).reads (bys_len _) ix.nz (bys_one _)) (by kernel_rfl) (z := .int .u8 0) (by kernel_rfl) rfl (by decide) (by omega) (by unfold maxLen; omega) ?_
 intro ac15 wo16 ao11 cp12 En17 Hv18 hnz _
 clear hnz
 rw [bys_nil_append] at Hv18
 have ehz13 : 0 + (List.length lx) = List.length lx := (by first | (simp; done) | (simp; omega) | omega)
 rw [ehz13] at En17
 clear ehz13
 refine f_o ?_
 refine op_lit (d := some 12) (t := 23) (T := 5) (m := 1) (parts := #[(0, .int .u8 128)]) (xs := bys [(128 : UInt8)]) (sz := 1) En17 (by kernel_rfl) (by kernel_rfl) rfl (by decide) Hv18 ?_
 intro ac20 wo21 bk19 En22 Hv23
 refine f_o ?_
 refine op_append (d := some 13) (t := 23) (tx := 23) (ty := 23) (k := 0) (p := List.length lx) (m := 1) (x := .slice (some ⟨bk19, 0, none⟩) 1 1) (bytes := 1) En22 (by kernel_rfl) Hv23 rfl (bys_len _) (Reads.src (size := 1) (tx := 23) (e' := 5) (by kernel_rfl) (Hv23.heap.reads (k := 1) rfl) rfl (fun e => by cases e) (bys_one _)) (by kernel_rfl) (z := .int .u8 0) (by kernel_rfl) rfl (by decide) (by omega) (by unfold maxLen; omega) ?_
 intro ac28 wo29 ao24 cp25 En30 Hv31 hnz _
 clear hnz
 rw [← bys_append] at Hv31
 have ehz26 : (List.length lx) + 1 = List.length (lx ++ [(128 : UInt8)]) := (by first | (simp; done) | (simp; omega) | omega)
 rw [ehz26] at En30
 clear ehz26
 refine d_e [0,1,4,5] [] En30 fun ac32 En33 => ?_
 refine then_normal ?_
 refine wp_seq ?_
 refine wp_block ?_
 have hb0 : lx ++ [(128 : UInt8)] = (lx ++ ([128] : List UInt8)) ++ List.replicate 0 0 := by simp
 refine loop_m (fun ms34 ac wo => ∃ (j : Nat) (ae : Option Addr) (ce : Nat) (el : List UInt8), ms34 = (pdZ 64 (List.length lx % 64) - j : Nat) ∧ Env ac 52 [(0, .slice ax (List.length lx) cx), (1, .int .i64 64), (4, .slice none 0 0), (5, .slice ae (List.length el) ce)] ∧ Ev w [] wo [.vec ae ce 1 (bys el) 5] ∧ (j ≤ pdZ 64 (List.length lx % 64)) ∧ (el = (lx ++ ([128] : List UInt8)) ++ List.replicate j 0)) ⟨_, 0, ao24, cp25, lx ++ [(128 : UInt8)], rfl, En33.sb, Hv31.pk [0], Nat.zero_le _, hb0⟩ ?_
 rintro mm40 ac36 wo37 ⟨j, ae, ce, el, rfl, En38, Hv39, hj, heel⟩
 refine wp_seq ?_
 refine wp_seq ?_
 have hel : List.length el = List.length lx + 1 + j := by rw [heel]; simp; omega
 have hpz : pdZ 64 (List.length lx % 64) < 64 := Nat.mod_lt _ (by decide)
 refine d_r [0,1,4,5,22] [(3, g_i .i64 (show Int.tmod ((List.length el : Nat) : Int) (64 : Int) = (((List.length el) % 64 : Nat) : Int) from Go.Dbr.i64_rem_nat (a := ((List.length el : Nat) : Int)) (n := List.length el) (m := 64) rfl (by omega)))] En38 fun ac41 En42 => ?_
 refine then_normal ?_
 refine c_n (((List.length el) % 64 : Nat) : Int) (56 : Int) En42 (fun hc43 => ?_) (fun hc43 => ?_)
 ·
  refine wp_skip ?_
  refine then_normal ?_
  refine wp_block ?_
  refine region_from ?_
  refine d_k [0,1,4,5,23] [] 1 En42 fun ac44 En45 => ?_
  refine f_o ?_
  refine op_lit (d := some 24) (t := 23) (T := 5) (m := 1) (parts := #[(0, .int .u8 0)]) (xs := bys [(0 : UInt8)]) (sz := 1) En45 (by kernel_rfl) (by kernel_rfl) rfl (by decide) Hv39 ?_
  intro ac47 wo48 bk46 En49 Hv50
  refine f_o ?_
  refine op_append (d := some 25) (t := 23) (tx := 23) (ty := 23) (k := 0) (p := List.length el) (m := 1) (x := .slice (some ⟨bk46, 0, none⟩) 1 1) (bytes := 1) En49 (by kernel_rfl) Hv50 rfl (bys_len _) (Reads.src (size := 1) (tx := 23) (e' := 5) (by kernel_rfl) (Hv50.heap.reads (k := 1) rfl) rfl (fun e => by cases e) (bys_one _)) (by kernel_rfl) (z := .int .u8 0) (by kernel_rfl) rfl (by decide) (by omega) (by unfold maxLen; omega) ?_
  intro ac55 wo56 ao51 cp52 En57 Hv58 hnz _
  clear hnz
  rw [← bys_append] at Hv58
  have ehz53 : (List.length el) + 1 = List.length (el ++ [(0 : UInt8)]) := (by first | (simp; done) | (simp; omega) | omega)
  rw [ehz53] at En57
  clear ehz53
  refine d_e [0,1,4,5] [] En57 fun ac59 En60 => ?_
  refine block_normal ?_
  refine then_normal ?_
  refine ⟨_, ⟨j + 1, ao51, cp52, (el ++ [(0 : UInt8)]), rfl, En60.sb, Hv58.pk [0], by unfold pdZ at *; omega, by rw [heel]; exact end_step⟩, ?_⟩
  unfold pdZ at *; omega
 ·
  refine wp_exit ?_
  refine then_exit ?_
  refine then_exit ?_
  refine block_exit ?_
  refine then_normal ?_
  refine wp_seq ?_
  refine wp_seq ?_
  have hel : List.length el = List.length lx + 1 + j := by rw [heel]; simp; omega
  have hpz : pdZ 64 (List.length lx % 64) < 64 := Nat.mod_lt _ (by decide)
  have hjp : j = pdZ 64 (List.length lx % 64) := by unfold pdZ at *; omega
  have hjb : j < 128 := by omega
  refine d_r [0,1,4,5,6] [] En42 fun ac61 En62 => ?_
  refine then_normal ?_
  refine wp_block ?_
  refine loop_enter ?_
  refine loop_once ?_
  refine wp_seq ?_
  refine wp_seq ?_
  refine d_r [0,1,4,5,6,29] [] En62 fun ac63 En64 => ?_
  refine then_normal ?_
  refine c_f En64 ?_
  refine wp_exit ?_
  refine then_exit ?_
  refine then_exit ?_
  refine block_exit ?_
  refine then_normal ?_
  refine wp_seq ?_
  refine d_r [0,1,4,5,6,7] [(2, g_i .u64 (Go.Dbr.nat_to_u64 (a := ((List.length lx : Nat) : Int)) (n := List.length lx) rfl)), (3, g_i .u64 (Go.Dbr.u64_mul (x := UInt64.ofNat (List.length lx)) (y := (8 : UInt64)) rfl rfl))] En64 fun ac65 En66 => ?_
  refine then_normal ?_
  refine wp_seq ?_
  refine wp_seq ?_
  refine d_r [0,1,4,5,6,7,8] [] En66 fun ac67 En68 => ?_
  refine then_normal ?_
  refine wp_block ?_
  refine loop_enter ?_
  refine loop_once ?_
  refine wp_seq ?_
  refine wp_seq ?_
  refine d_r [0,1,4,5,6,7,8,40] [] En68 fun ac69 En70 => ?_
  refine then_normal ?_
  refine c_t En70 ?_
  refine wp_skip ?_
  refine then_normal ?_
  refine wp_seq ?_
  refine wp_block ?_
  refine region_from ?_
  refine d_k [0,1,4,5,6,7,8,43,48] [(4, g_i .u64 (Go.Dbr.u64_shr (x := (UInt64.ofNat (List.length lx)) * (8 : UInt64)) (n := 56) rfl (by decide))), (5, g_i .u8 (Go.Dbr.u64_to_u8 (x := ((UInt64.ofNat (List.length lx)) * (8 : UInt64)) >>> UInt64.ofNat 56) rfl))] 6 En70 fun ac71 En72 => ?_
  refine f_o ?_
  refine op_lit (d := some 49) (t := 23) (T := 5) (m := 1) (parts := #[(0, bv (UInt64.toUInt8 (((UInt64.ofNat (List.length lx)) * (8 : UInt64)) >>> UInt64.ofNat 56)))]) (xs := bys [UInt64.toUInt8 (((UInt64.ofNat (List.length lx)) * (8 : UInt64)) >>> UInt64.ofNat 56)]) (sz := 1) En72 (by kernel_rfl) (by kernel_rfl) rfl (by decide) Hv39 ?_
  intro ac74 wo75 bk73 En76 Hv77
  refine f_o ?_
  refine op_append (d := some 50) (t := 23) (tx := 23) (ty := 23) (k := 0) (p := List.length el) (m := 1) (x := .slice (some ⟨bk73, 0, none⟩) 1 1) (bytes := 1) En76 (by kernel_rfl) Hv77 rfl (bys_len _) (Reads.src (size := 1) (tx := 23) (e' := 5) (by kernel_rfl) (Hv77.heap.reads (k := 1) rfl) rfl (fun e => by cases e) (bys_one _)) (by kernel_rfl) (z := .int .u8 0) (by kernel_rfl) rfl (by decide) (by omega) (by unfold maxLen; omega) ?_
  intro ac82 wo83 ao78 cp79 En84 Hv85 hnz _
  clear hnz
  rw [← bys_append] at Hv85
  have ehz80 : (List.length el) + 1 = List.length (el ++ [UInt64.toUInt8 (((UInt64.ofNat (List.length lx)) * (8 : UInt64)) >>> UInt64.ofNat 56)]) := (by first | (simp; done) | (simp; omega) | omega)
  rw [ehz80] at En84
  clear ehz80
  refine d_e [0,1,4,5,6,7,8] [] En84 fun ac86 En87 => ?_
  refine block_normal ?_
  refine then_normal ?_
  generalize hg0 : el ++ [UInt64.toUInt8 (((UInt64.ofNat (List.length lx)) * (8 : UInt64)) >>> UInt64.ofNat 56)] = gl0 at Hv85 En87
  have hn0 : List.length gl0 = List.length lx + 2 + j + 0 := by rw [← hg0, List.length_append]; simp only [List.length_cons, List.length_nil]; omega
  have Hv88 := Hv85.pk [0] (M := [.vec ao78 cp79 1 (bys gl0) 5])
  refine d_r [0,1,4,5,6,7,8] [] En87 fun ac89 En90 => ?_
  refine then_normal ?_
  refine loop_once ?_
  refine wp_seq ?_
  refine wp_seq ?_
  refine d_r [0,1,4,5,6,7,8,40] [] En90 fun ac91 En92 => ?_
  refine then_normal ?_
  refine c_t En92 ?_
  refine wp_skip ?_
  refine then_normal ?_
  refine wp_seq ?_
  refine wp_block ?_
  refine region_from ?_
  refine d_k [0,1,4,5,6,7,8,43,48] [(4, g_i .u64 (Go.Dbr.u64_shr (x := (UInt64.ofNat (List.length lx)) * (8 : UInt64)) (n := 48) rfl (by decide))), (5, g_i .u8 (Go.Dbr.u64_to_u8 (x := ((UInt64.ofNat (List.length lx)) * (8 : UInt64)) >>> UInt64.ofNat 48) rfl))] 6 En92 fun ac93 En94 => ?_
  refine f_o ?_
  refine op_lit (d := some 49) (t := 23) (T := 5) (m := 1) (parts := #[(0, bv (UInt64.toUInt8 (((UInt64.ofNat (List.length lx)) * (8 : UInt64)) >>> UInt64.ofNat 48)))]) (xs := bys [UInt64.toUInt8 (((UInt64.ofNat (List.length lx)) * (8 : UInt64)) >>> UInt64.ofNat 48)]) (sz := 1) En94 (by kernel_rfl) (by kernel_rfl) rfl (by decide) Hv88 ?_
  intro ac96 wo97 bk95 En98 Hv99
  refine f_o ?_
  refine op_append (d := some 50) (t := 23) (tx := 23) (ty := 23) (k := 0) (p := List.length gl0) (m := 1) (x := .slice (some ⟨bk95, 0, none⟩) 1 1) (bytes := 1) En98 (by kernel_rfl) Hv99 rfl (bys_len _) (Reads.src (size := 1) (tx := 23) (e' := 5) (by kernel_rfl) (Hv99.heap.reads (k := 1) rfl) rfl (fun e => by cases e) (bys_one _)) (by kernel_rfl) (z := .int .u8 0) (by kernel_rfl) rfl (by decide) (app_b1 hn0 hs hjb (by decide)) (app_b2 hn0 hs hjb (by decide)) ?_
  intro ac104 wo105 ao100 cp101 En106 Hv107 hnz _
  clear hnz
  rw [← bys_append] at Hv107
  have ehz102 : (List.length gl0) + 1 = List.length (gl0 ++ [UInt64.toUInt8 (((UInt64.ofNat (List.length lx)) * (8 : UInt64)) >>> UInt64.ofNat 48)]) := (by first | (simp; done) | (simp; omega) | omega)
  rw [ehz102] at En106
  clear ehz102
  refine d_e [0,1,4,5,6,7,8] [] En106 fun ac108 En109 => ?_
  refine block_normal ?_
  refine then_normal ?_
  generalize hg1 : gl0 ++ [UInt64.toUInt8 (((UInt64.ofNat (List.length lx)) * (8 : UInt64)) >>> UInt64.ofNat 48)] = gl1 at Hv107 En109
  have hn1 : List.length gl1 = List.length lx + 2 + j + 1 := by rw [← hg1, List.length_append]; simp only [List.length_cons, List.length_nil]; exact app_n hn0
  have Hv110 := Hv107.pk [0] (M := [.vec ao100 cp101 1 (bys gl1) 5])
  refine d_r [0,1,4,5,6,7,8] [] En109 fun ac111 En112 => ?_
  refine then_normal ?_
  refine loop_once ?_
  refine wp_seq ?_
  refine wp_seq ?_
  refine d_r [0,1,4,5,6,7,8,40] [] En112 fun ac113 En114 => ?_
  refine then_normal ?_
  refine c_t En114 ?_
  refine wp_skip ?_
  refine then_normal ?_
  refine wp_seq ?_
  refine wp_block ?_
  refine region_from ?_
  refine d_k [0,1,4,5,6,7,8,43,48] [(4, g_i .u64 (Go.Dbr.u64_shr (x := (UInt64.ofNat (List.length lx)) * (8 : UInt64)) (n := 40) rfl (by decide))), (5, g_i .u8 (Go.Dbr.u64_to_u8 (x := ((UInt64.ofNat (List.length lx)) * (8 : UInt64)) >>> UInt64.ofNat 40) rfl))] 6 En114 fun ac115 En116 => ?_
  refine f_o ?_
  refine op_lit (d := some 49) (t := 23) (T := 5) (m := 1) (parts := #[(0, bv (UInt64.toUInt8 (((UInt64.ofNat (List.length lx)) * (8 : UInt64)) >>> UInt64.ofNat 40)))]) (xs := bys [UInt64.toUInt8 (((UInt64.ofNat (List.length lx)) * (8 : UInt64)) >>> UInt64.ofNat 40)]) (sz := 1) En116 (by kernel_rfl) (by kernel_rfl) rfl (by decide) Hv110 ?_
  intro ac118 wo119 bk117 En120 Hv121
  refine f_o ?_
  refine op_append (d := some 50) (t := 23) (tx := 23) (ty := 23) (k := 0) (p := List.length gl1) (m := 1) (x := .slice (some ⟨bk117, 0, none⟩) 1 1) (bytes := 1) En120 (by kernel_rfl) Hv121 rfl (bys_len _) (Reads.src (size := 1) (tx := 23) (e' := 5) (by kernel_rfl) (Hv121.heap.reads (k := 1) rfl) rfl (fun e => by cases e) (bys_one _)) (by kernel_rfl) (z := .int .u8 0) (by kernel_rfl) rfl (by decide) (app_b1 hn1 hs hjb (by decide)) (app_b2 hn1 hs hjb (by decide)) ?_
  intro ac126 wo127 ao122 cp123 En128 Hv129 hnz _
  clear hnz
  rw [← bys_append] at Hv129
  have ehz124 : (List.length gl1) + 1 = List.length (gl1 ++ [UInt64.toUInt8 (((UInt64.ofNat (List.length lx)) * (8 : UInt64)) >>> UInt64.ofNat 40)]) := (by first | (simp; done) | (simp; omega) | omega)
  rw [ehz124] at En128
  clear ehz124
  refine d_e [0,1,4,5,6,7,8] [] En128 fun ac130 En131 => ?_
  refine block_normal ?_
  refine then_normal ?_
  generalize hg2 : gl1 ++ [UInt64.toUInt8 (((UInt64.ofNat (List.length lx)) * (8 : UInt64)) >>> UInt64.ofNat 40)] = gl2 at Hv129 En131
  have hn2 : List.length gl2 = List.length lx + 2 + j + 2 := by rw [← hg2, List.length_append]; simp only [List.length_cons, List.length_nil]; exact app_n hn1
  have Hv132 := Hv129.pk [0] (M := [.vec ao122 cp123 1 (bys gl2) 5])
  refine d_r [0,1,4,5,6,7,8] [] En131 fun ac133 En134 => ?_
  refine then_normal ?_
  refine loop_once ?_
  refine wp_seq ?_
  refine wp_seq ?_
  refine d_r [0,1,4,5,6,7,8,40] [] En134 fun ac135 En136 => ?_
  refine then_normal ?_
  refine c_t En136 ?_
  refine wp_skip ?_
  refine then_normal ?_
  refine wp_seq ?_
  refine wp_block ?_
  refine region_from ?_
  refine d_k [0,1,4,5,6,7,8,43,48] [(4, g_i .u64 (Go.Dbr.u64_shr (x := (UInt64.ofNat (List.length lx)) * (8 : UInt64)) (n := 32) rfl (by decide))), (5, g_i .u8 (Go.Dbr.u64_to_u8 (x := ((UInt64.ofNat (List.length lx)) * (8 : UInt64)) >>> UInt64.ofNat 32) rfl))] 6 En136 fun ac137 En138 => ?_
  refine f_o ?_
  refine op_lit (d := some 49) (t := 23) (T := 5) (m := 1) (parts := #[(0, bv (UInt64.toUInt8 (((UInt64.ofNat (List.length lx)) * (8 : UInt64)) >>> UInt64.ofNat 32)))]) (xs := bys [UInt64.toUInt8 (((UInt64.ofNat (List.length lx)) * (8 : UInt64)) >>> UInt64.ofNat 32)]) (sz := 1) En138 (by kernel_rfl) (by kernel_rfl) rfl (by decide) Hv132 ?_
  intro ac140 wo141 bk139 En142 Hv143
  refine f_o ?_
  refine op_append (d := some 50) (t := 23) (tx := 23) (ty := 23) (k := 0) (p := List.length gl2) (m := 1) (x := .slice (some ⟨bk139, 0, none⟩) 1 1) (bytes := 1) En142 (by kernel_rfl) Hv143 rfl (bys_len _) (Reads.src (size := 1) (tx := 23) (e' := 5) (by kernel_rfl) (Hv143.heap.reads (k := 1) rfl) rfl (fun e => by cases e) (bys_one _)) (by kernel_rfl) (z := .int .u8 0) (by kernel_rfl) rfl (by decide) (app_b1 hn2 hs hjb (by decide)) (app_b2 hn2 hs hjb (by decide)) ?_
  intro ac148 wo149 ao144 cp145 En150 Hv151 hnz _
  clear hnz
  rw [← bys_append] at Hv151
  have ehz146 : (List.length gl2) + 1 = List.length (gl2 ++ [UInt64.toUInt8 (((UInt64.ofNat (List.length lx)) * (8 : UInt64)) >>> UInt64.ofNat 32)]) := (by first | (simp; done) | (simp; omega) | omega)
  rw [ehz146] at En150
  clear ehz146
  refine d_e [0,1,4,5,6,7,8] [] En150 fun ac152 En153 => ?_
  refine block_normal ?_
  refine then_normal ?_
  generalize hg3 : gl2 ++ [UInt64.toUInt8 (((UInt64.ofNat (List.length lx)) * (8 : UInt64)) >>> UInt64.ofNat 32)] = gl3 at Hv151 En153
  have hn3 : List.length gl3 = List.length lx + 2 + j + 3 := by rw [← hg3, List.length_append]; simp only [List.length_cons, List.length_nil]; exact app_n hn2
  have Hv154 := Hv151.pk [0] (M := [.vec ao144 cp145 1 (bys gl3) 5])
  refine d_r [0,1,4,5,6,7,8] [] En153 fun ac155 En156 => ?_
  refine then_normal ?_
  refine loop_once ?_
  refine wp_seq ?_
  refine wp_seq ?_
  refine d_r [0,1,4,5,6,7,8,40] [] En156 fun ac157 En158 => ?_
  refine then_normal ?_
  refine c_t En158 ?_
  refine wp_skip ?_
  refine then_normal ?_
  refine wp_seq ?_
  refine wp_block ?_
  refine region_from ?_
  refine d_k [0,1,4,5,6,7,8,43,48] [(4, g_i .u64 (Go.Dbr.u64_shr (x := (UInt64.ofNat (List.length lx)) * (8 : UInt64)) (n := 24) rfl (by decide))), (5, g_i .u8 (Go.Dbr.u64_to_u8 (x := ((UInt64.ofNat (List.length lx)) * (8 : UInt64)) >>> UInt64.ofNat 24) rfl))] 6 En158 fun ac159 En160 => ?_
  refine f_o ?_
  refine op_lit (d := some 49) (t := 23) (T := 5) (m := 1) (parts := #[(0, bv (UInt64.toUInt8 (((UInt64.ofNat (List.length lx)) * (8 : UInt64)) >>> UInt64.ofNat 24)))]) (xs := bys [UInt64.toUInt8 (((UInt64.ofNat (List.length lx)) * (8 : UInt64)) >>> UInt64.ofNat 24)]) (sz := 1) En160 (by kernel_rfl) (by kernel_rfl) rfl (by decide) Hv154 ?_
  intro ac162 wo163 bk161 En164 Hv165
  refine f_o ?_
  refine op_append (d := some 50) (t := 23) (tx := 23) (ty := 23) (k := 0) (p := List.length gl3) (m := 1) (x := .slice (some ⟨bk161, 0, none⟩) 1 1) (bytes := 1) En164 (by kernel_rfl) Hv165 rfl (bys_len _) (Reads.src (size := 1) (tx := 23) (e' := 5) (by kernel_rfl) (Hv165.heap.reads (k := 1) rfl) rfl (fun e => by cases e) (bys_one _)) (by kernel_rfl) (z := .int .u8 0) (by kernel_rfl) rfl (by decide) (app_b1 hn3 hs hjb (by decide)) (app_b2 hn3 hs hjb (by decide)) ?_
  intro ac170 wo171 ao166 cp167 En172 Hv173 hnz _
  clear hnz
  rw [← bys_append] at Hv173
  have ehz168 : (List.length gl3) + 1 = List.length (gl3 ++ [UInt64.toUInt8 (((UInt64.ofNat (List.length lx)) * (8 : UInt64)) >>> UInt64.ofNat 24)]) := (by first | (simp; done) | (simp; omega) | omega)
  rw [ehz168] at En172
  clear ehz168
  refine d_e [0,1,4,5,6,7,8] [] En172 fun ac174 En175 => ?_
  refine block_normal ?_
  refine then_normal ?_
  generalize hg4 : gl3 ++ [UInt64.toUInt8 (((UInt64.ofNat (List.length lx)) * (8 : UInt64)) >>> UInt64.ofNat 24)] = gl4 at Hv173 En175
  have hn4 : List.length gl4 = List.length lx + 2 + j + 4 := by rw [← hg4, List.length_append]; simp only [List.length_cons, List.length_nil]; exact app_n hn3
  have Hv176 := Hv173.pk [0] (M := [.vec ao166 cp167 1 (bys gl4) 5])
  refine d_r [0,1,4,5,6,7,8] [] En175 fun ac177 En178 => ?_
  refine then_normal ?_
  refine loop_once ?_
  refine wp_seq ?_
  refine wp_seq ?_
  refine d_r [0,1,4,5,6,7,8,40] [] En178 fun ac179 En180 => ?_
  refine then_normal ?_
  refine c_t En180 ?_
  refine wp_skip ?_
  refine then_normal ?_
  refine wp_seq ?_
  refine wp_block ?_
  refine region_from ?_
  refine d_k [0,1,4,5,6,7,8,43,48] [(4, g_i .u64 (Go.Dbr.u64_shr (x := (UInt64.ofNat (List.length lx)) * (8 : UInt64)) (n := 16) rfl (by decide))), (5, g_i .u8 (Go.Dbr.u64_to_u8 (x := ((UInt64.ofNat (List.length lx)) * (8 : UInt64)) >>> UInt64.ofNat 16) rfl))] 6 En180 fun ac181 En182 => ?_
  refine f_o ?_
  refine op_lit (d := some 49) (t := 23) (T := 5) (m := 1) (parts := #[(0, bv (UInt64.toUInt8 (((UInt64.ofNat (List.length lx)) * (8 : UInt64)) >>> UInt64.ofNat 16)))]) (xs := bys [UInt64.toUInt8 (((UInt64.ofNat (List.length lx)) * (8 : UInt64)) >>> UInt64.ofNat 16)]) (sz := 1) En182 (by kernel_rfl) (by kernel_rfl) rfl (by decide) Hv176 ?_
  intro ac184 wo185 bk183 En186 Hv187
  refine f_o ?_
  refine op_append (d := some 50) (t := 23) (tx := 23) (ty := 23) (k := 0) (p := List.length gl4) (m := 1) (x := .slice (some ⟨bk183, 0, none⟩) 1 1) (bytes := 1) En186 (by kernel_rfl) Hv187 rfl (bys_len _) (Reads.src (size := 1) (tx := 23) (e' := 5) (by kernel_rfl) (Hv187.heap.reads (k := 1) rfl) rfl (fun e => by cases e) (bys_one _)) (by kernel_rfl) (z := .int .u8 0) (by kernel_rfl) rfl (by decide) (app_b1 hn4 hs hjb (by decide)) (app_b2 hn4 hs hjb (by decide)) ?_
  intro ac192 wo193 ao188 cp189 En194 Hv195 hnz _
  clear hnz
  rw [← bys_append] at Hv195
  have ehz190 : (List.length gl4) + 1 = List.length (gl4 ++ [UInt64.toUInt8 (((UInt64.ofNat (List.length lx)) * (8 : UInt64)) >>> UInt64.ofNat 16)]) := (by first | (simp; done) | (simp; omega) | omega)
  rw [ehz190] at En194
  clear ehz190
  refine d_e [0,1,4,5,6,7,8] [] En194 fun ac196 En197 => ?_
  refine block_normal ?_
  refine then_normal ?_
  generalize hg5 : gl4 ++ [UInt64.toUInt8 (((UInt64.ofNat (List.length lx)) * (8 : UInt64)) >>> UInt64.ofNat 16)] = gl5 at Hv195 En197
  have hn5 : List.length gl5 = List.length lx + 2 + j + 5 := by rw [← hg5, List.length_append]; simp only [List.length_cons, List.length_nil]; exact app_n hn4
  have Hv198 := Hv195.pk [0] (M := [.vec ao188 cp189 1 (bys gl5) 5])
  refine d_r [0,1,4,5,6,7,8] [] En197 fun ac199 En200 => ?_
  refine then_normal ?_
  refine loop_once ?_
  refine wp_seq ?_
  refine wp_seq ?_
  refine d_r [0,1,4,5,6,7,8,40] [] En200 fun ac201 En202 => ?_
  refine then_normal ?_
  refine c_t En202 ?_
  refine wp_skip ?_
  refine then_normal ?_
  refine wp_seq ?_
  refine wp_block ?_
  refine region_from ?_
  refine d_k [0,1,4,5,6,7,8,43,48] [(4, g_i .u64 (Go.Dbr.u64_shr (x := (UInt64.ofNat (List.length lx)) * (8 : UInt64)) (n := 8) rfl (by decide))), (5, g_i .u8 (Go.Dbr.u64_to_u8 (x := ((UInt64.ofNat (List.length lx)) * (8 : UInt64)) >>> UInt64.ofNat 8) rfl))] 6 En202 fun ac203 En204 => ?_
  refine f_o ?_
  refine op_lit (d := some 49) (t := 23) (T := 5) (m := 1) (parts := #[(0, bv (UInt64.toUInt8 (((UInt64.ofNat (List.length lx)) * (8 : UInt64)) >>> UInt64.ofNat 8)))]) (xs := bys [UInt64.toUInt8 (((UInt64.ofNat (List.length lx)) * (8 : UInt64)) >>> UInt64.ofNat 8)]) (sz := 1) En204 (by kernel_rfl) (by kernel_rfl) rfl (by decide) Hv198 ?_
  intro ac206 wo207 bk205 En208 Hv209
  refine f_o ?_
  refine op_append (d := some 50) (t := 23) (tx := 23) (ty := 23) (k := 0) (p := List.length gl5) (m := 1) (x := .slice (some ⟨bk205, 0, none⟩) 1 1) (bytes := 1) En208 (by kernel_rfl) Hv209 rfl (bys_len _) (Reads.src (size := 1) (tx := 23) (e' := 5) (by kernel_rfl) (Hv209.heap.reads (k := 1) rfl) rfl (fun e => by cases e) (bys_one _)) (by kernel_rfl) (z := .int .u8 0) (by kernel_rfl) rfl (by decide) (app_b1 hn5 hs hjb (by decide)) (app_b2 hn5 hs hjb (by decide)) ?_
  intro ac214 wo215 ao210 cp211 En216 Hv217 hnz _
  clear hnz
  rw [← bys_append] at Hv217
  have ehz212 : (List.length gl5) + 1 = List.length (gl5 ++ [UInt64.toUInt8 (((UInt64.ofNat (List.length lx)) * (8 : UInt64)) >>> UInt64.ofNat 8)]) := (by first | (simp; done) | (simp; omega) | omega)
  rw [ehz212] at En216
  clear ehz212
  refine d_e [0,1,4,5,6,7,8] [] En216 fun ac218 En219 => ?_
  refine block_normal ?_
  refine then_normal ?_
  generalize hg6 : gl5 ++ [UInt64.toUInt8 (((UInt64.ofNat (List.length lx)) * (8 : UInt64)) >>> UInt64.ofNat 8)] = gl6 at Hv217 En219
  have hn6 : List.length gl6 = List.length lx + 2 + j + 6 := by rw [← hg6, List.length_append]; simp only [List.length_cons, List.length_nil]; exact app_n hn5
  have Hv220 := Hv217.pk [0] (M := [.vec ao210 cp211 1 (bys gl6) 5])
  refine d_r [0,1,4,5,6,7,8] [] En219 fun ac221 En222 => ?_
  refine then_normal ?_
  refine loop_once ?_
  refine wp_seq ?_
  refine wp_seq ?_
  refine d_r [0,1,4,5,6,7,8,40] [] En222 fun ac223 En224 => ?_
  refine then_normal ?_
  refine c_t En224 ?_
  refine wp_skip ?_
  refine then_normal ?_
  refine wp_seq ?_
  refine wp_block ?_
  refine region_from ?_
  refine d_k [0,1,4,5,6,7,8,43,48] [(4, g_i .u64 (Go.Dbr.u64_shr (x := (UInt64.ofNat (List.length lx)) * (8 : UInt64)) (n := 0) rfl (by decide))), (5, g_i .u8 (Go.Dbr.u64_to_u8 (x := ((UInt64.ofNat (List.length lx)) * (8 : UInt64)) >>> UInt64.ofNat 0) rfl))] 6 En224 fun ac225 En226 => ?_
  refine f_o ?_
  refine op_lit (d := some 49) (t := 23) (T := 5) (m := 1) (parts := #[(0, bv (UInt64.toUInt8 (((UInt64.ofNat (List.length lx)) * (8 : UInt64)) >>> UInt64.ofNat 0)))]) (xs := bys [UInt64.toUInt8 (((UInt64.ofNat (List.length lx)) * (8 : UInt64)) >>> UInt64.ofNat 0)]) (sz := 1) En226 (by kernel_rfl) (by kernel_rfl) rfl (by decide) Hv220 ?_
  intro ac228 wo229 bk227 En230 Hv231
  refine f_o ?_
  refine op_append (d := some 50) (t := 23) (tx := 23) (ty := 23) (k := 0) (p := List.length gl6) (m := 1) (x := .slice (some ⟨bk227, 0, none⟩) 1 1) (bytes := 1) En230 (by kernel_rfl) Hv231 rfl (bys_len _) (Reads.src (size := 1) (tx := 23) (e' := 5) (by kernel_rfl) (Hv231.heap.reads (k := 1) rfl) rfl (fun e => by cases e) (bys_one _)) (by kernel_rfl) (z := .int .u8 0) (by kernel_rfl) rfl (by decide) (app_b1 hn6 hs hjb (by decide)) (app_b2 hn6 hs hjb (by decide)) ?_
  intro ac236 wo237 ao232 cp233 En238 Hv239 hnz _
  clear hnz
  rw [← bys_append] at Hv239
  have ehz234 : (List.length gl6) + 1 = List.length (gl6 ++ [UInt64.toUInt8 (((UInt64.ofNat (List.length lx)) * (8 : UInt64)) >>> UInt64.ofNat 0)]) := (by first | (simp; done) | (simp; omega) | omega)
  rw [ehz234] at En238
  clear ehz234
  refine d_e [0,1,4,5,6,7,8] [] En238 fun ac240 En241 => ?_
  refine block_normal ?_
  refine then_normal ?_
  generalize hg7 : gl6 ++ [UInt64.toUInt8 (((UInt64.ofNat (List.length lx)) * (8 : UInt64)) >>> UInt64.ofNat 0)] = gl7 at Hv239 En241
  have hn7 : List.length gl7 = List.length lx + 2 + j + 7 := by rw [← hg7, List.length_append]; simp only [List.length_cons, List.length_nil]; exact app_n hn6
  have Hv242 := Hv239.pk [0] (M := [.vec ao232 cp233 1 (bys gl7) 5])
  refine d_r [0,1,4,5,6,7,8] [] En241 fun ac243 En244 => ?_
  refine then_normal ?_
  refine loop_once ?_
  refine wp_seq ?_
  refine wp_seq ?_
  refine d_r [0,1,4,5,6,7,8,40] [] En244 fun ac245 En246 => ?_
  refine then_normal ?_
  refine c_f En246 ?_
  refine wp_exit ?_
  refine then_exit ?_
  refine then_exit ?_
  refine block_exit ?_
  refine then_normal ?_
  refine wp_seq ?_
  refine d_r [0,1,4,5,6,7,8] [] En246 fun ac247 En248 => ?_
  refine then_normal ?_
  refine wp_ret ?_
  refine d_ret1 (t := 4) (v := .slice ao232 (List.length gl7) cp233) En248 (by kernel_rfl) (by kernel_rfl) ?_
  have hl : gl7 = lx ++ padB 64 (List.length lx % 64) (List.length lx) := by rw [← hg7, ← hg6, ← hg5, ← hg4, ← hg3, ← hg2, ← hg1, ← hg0, heel, hjp]; simp [padB, be8, List.replicate]
  have Hf249 := Hv242.pk [0] (M := [.vec ao232 cp233 1 (bys gl7) 5])
  rw [hl] at Hf249
  exact ⟨_, _, by rw [hl], Hf249⟩

theorem padded64_ref (w : World) (ax : Option Addr) (nx cx : Nat) (lx : List UInt8) (ex : nx = List.length lx) (ix : InB w [] ax cx lx) : Calls Tryd.prog 41 #[.slice ax nx cx, .int .i64 128] w fun e w' => ∃ ao co, e = .returned (.slice ao (List.length (lx ++ padB 128 (List.length lx % 128) (List.length lx))) co) ∧ Ev w [] w' [.vec ao co 1 (bys (lx ++ padB 128 (List.length lx % 128) (List.length lx))) 5] := by
 subst ex
 have hs := ix.small
 have hcx := ix.cap
 refine d_0 [(0, .slice ax (List.length lx) cx), (1, .int .i64 128)] 52 Go.Proofs.Tryd.func41 Go.Proofs.Tryd.ntmps41 (Heap.nil _) fun act0 En0 Hv0 => ?_
 refine wp_seq ?_
 refine d_r [0,1,4] [] En0 fun ac1 En2 => ?_
 refine then_normal ?_
 refine wp_seq ?_
 refine region_from ?_
 refine f_o ?_
 refine op_lit (d := some 9) (t := 23) (T := 5) (m := 0) (parts := #[]) (xs := bys []) (sz := 1) En2 (by kernel_rfl) (by kernel_rfl) rfl (by decide) Hv0 ?_
 intro ac4 wo5 bk3 En6 Hv7
 refine d_k [0,1,4,9,10] [] 2 En6 fun ac8 En9 => ?_
 refine f_o ?_
 have hsm10 := ix.small
 refine op_append (d := some 11) (t := 23) (tx := 23) (ty := 23) (k := 0) (p := 0) (m := List.length lx) (x := .slice ax (List.length lx) cx) (bytes := 1) En9 (by kernel_rfl) Hv7 rfl rfl (Reads.src (size := 1) (tx := 23) (e' := 5) (by kernel_rfl) (ix.ev Hv7).reads (bys_len _) ix.nz (bys_one _)) (by kernel_rfl) (z := .int .u8 0) (by kernel_rfl) rfl (by decide) (by omega) (by unfold maxLen; omega) ?_
 intro ac15 wo16 ao11 cp12 En17 Hv18 hnz _
 clear hnz
 rw [bys_nil_append] at Hv18
 have ehz13 : 0 + (List.length lx) = List.length lx := (by first | (simp; done) | (simp; omega) | omega)
 rw [ehz13] at En17
 clear ehz13
 refine f_o ?_
 refine op_lit (d := some 12) (t := 23) (T := 5) (m := 1) (parts := #[(0, .int .u8 128)]) (xs := bys [(128 : UInt8)]) (sz := 1) En17 (by kernel_rfl) (by kernel_rfl) rfl (by decide) Hv18 ?_
 intro ac20 wo21 bk19 En22 Hv23
 refine f_o ?_
 refine op_append (d := some 13) (t := 23) (tx := 23) (ty := 23) (k := 0) (p := List.length lx) (m := 1) (x := .slice (some ⟨bk19, 0, none⟩) 1 1) (bytes := 1) En22 (by kernel_rfl) Hv23 rfl (bys_len _) (Reads.src (size := 1) (tx := 23) (e' := 5) (by kernel_rfl) (Hv23.heap.reads (k := 1) rfl) rfl (fun e => by cases e) (bys_one _)) (by kernel_rfl) (z := .int .u8 0) (by kernel_rfl) rfl (by decide) (by omega) (by unfold maxLen; omega) ?_
 intro ac28 wo29 ao24 cp25 En30 Hv31 hnz _
 clear hnz
 rw [← bys_append] at Hv31
 have ehz26 : (List.length lx) + 1 = List.length (lx ++ [(128 : UInt8)]) := (by first | (simp; done) | (simp; omega) | omega)
 rw [ehz26] at En30
 clear ehz26
 refine d_e [0,1,4,5] [] En30 fun ac32 En33 => ?_
 refine then_normal ?_
 refine wp_seq ?_
 refine wp_block ?_
 have hb0 : lx ++ [(128 : UInt8)] = (lx ++ ([128] : List UInt8)) ++ List.replicate 0 0 := by simp
 refine loop_m (fun ms34 ac wo => ∃ (j : Nat) (ae : Option Addr) (ce : Nat) (el : List UInt8), ms34 = (pdZ 128 (List.length lx % 128) - j : Nat) ∧ Env ac 52 [(0, .slice ax (List.length lx) cx), (1, .int .i64 128), (4, .slice none 0 0), (5, .slice ae (List.length el) ce)] ∧ Ev w [] wo [.vec ae ce 1 (bys el) 5] ∧ (j ≤ pdZ 128 (List.length lx % 128)) ∧ (el = (lx ++ ([128] : List UInt8)) ++ List.replicate j 0)) ⟨_, 0, ao24, cp25, lx ++ [(128 : UInt8)], rfl, En33.sb, Hv31.pk [0], Nat.zero_le _, hb0⟩ ?_
 rintro mm40 ac36 wo37 ⟨j, ae, ce, el, rfl, En38, Hv39, hj, heel⟩
 refine wp_seq ?_
 refine wp_seq ?_
 have hel : List.length el = List.length lx + 1 + j := by rw [heel]; simp; omega
 have hpz : pdZ 128 (List.length lx % 128) < 128 := Nat.mod_lt _ (by decide)
 refine d_r [0,1,4,5,22] [(3, g_i .i64 (show Int.tmod ((List.length el : Nat) : Int) (128 : Int) = (((List.length el) % 128 : Nat) : Int) from Go.Dbr.i64_rem_nat (a := ((List.length el : Nat) : Int)) (n := List.length el) (m := 128) rfl (by omega)))] En38 fun ac41 En42 => ?_
 refine then_normal ?_
 refine c_n (((List.length el) % 128 : Nat) : Int) (112 : Int) En42 (fun hc43 => ?_) (fun hc43 => ?_)
 ·
  refine wp_skip ?_
  refine then_normal ?_
  refine wp_block ?_
  refine region_from ?_
  refine d_k [0,1,4,5,23] [] 1 En42 fun ac44 En45 => ?_
  refine f_o ?_
  refine op_lit (d := some 24) (t := 23) (T := 5) (m := 1) (parts := #[(0, .int .u8 0)]) (xs := bys [(0 : UInt8)]) (sz := 1) En45 (by kernel_rfl) (by kernel_rfl) rfl (by decide) Hv39 ?_
  intro ac47 wo48 bk46 En49 Hv50
  refine f_o ?_
  refine op_append (d := some 25) (t := 23) (tx := 23) (ty := 23) (k := 0) (p := List.length el) (m := 1) (x := .slice (some ⟨bk46, 0, none⟩) 1 1) (bytes := 1) En49 (by kernel_rfl) Hv50 rfl (bys_len _) (Reads.src (size := 1) (tx := 23) (e' := 5) (by kernel_rfl) (Hv50.heap.reads (k := 1) rfl) rfl (fun e => by cases e) (bys_one _)) (by kernel_rfl) (z := .int .u8 0) (by kernel_rfl) rfl (by decide) (by omega) (by unfold maxLen; omega) ?_
  intro ac55 wo56 ao51 cp52 En57 Hv58 hnz _
  clear hnz
  rw [← bys_append] at Hv58
  have ehz53 : (List.length el) + 1 = List.length (el ++ [(0 : UInt8)]) := (by first | (simp; done) | (simp; omega) | omega)
  rw [ehz53] at En57
  clear ehz53
  refine d_e [0,1,4,5] [] En57 fun ac59 En60 => ?_
  refine block_normal ?_
  refine then_normal ?_
  refine ⟨_, ⟨j + 1, ao51, cp52, (el ++ [(0 : UInt8)]), rfl, En60.sb, Hv58.pk [0], by unfold pdZ at *; omega, by rw [heel]; exact end_step⟩, ?_⟩
  unfold pdZ at *; omega
 ·
  refine wp_exit ?_
  refine then_exit ?_
  refine then_exit ?_
  refine block_exit ?_
  refine then_normal ?_
  refine wp_seq ?_
  refine wp_seq ?_
  have hel : List.length el = List.length lx + 1 + j := by rw [heel]; simp; omega
  have hpz : pdZ 128 (List.length lx % 128) < 128 := Nat.mod_lt _ (by decide)
  have hjp : j = pdZ 128 (List.length lx % 128) := by unfold pdZ at *; omega
  have hjb : j < 128 := by omega
  refine d_r [0,1,4,5,6] [] En42 fun ac61 En62 => ?_
  refine then_normal ?_
  refine wp_block ?_
  refine loop_enter ?_
  refine loop_once ?_
  refine wp_seq ?_
  refine wp_seq ?_
  refine d_r [0,1,4,5,6,29] [] En62 fun ac63 En64 => ?_
  refine then_normal ?_
  refine c_t En64 ?_
  refine wp_skip ?_
  refine then_normal ?_
  refine wp_seq ?_
  refine wp_block ?_
  refine region_from ?_
  refine d_k [0,1,4,5,6,32] [] 1 En64 fun ac65 En66 => ?_
  refine f_o ?_
  refine op_lit (d := some 33) (t := 23) (T := 5) (m := 1) (parts := #[(0, .int .u8 0)]) (xs := bys [(0 : UInt8)]) (sz := 1) En66 (by kernel_rfl) (by kernel_rfl) rfl (by decide) Hv39 ?_
  intro ac68 wo69 bk67 En70 Hv71
  refine f_o ?_
  refine op_append (d := some 34) (t := 23) (tx := 23) (ty := 23) (k := 0) (p := List.length el) (m := 1) (x := .slice (some ⟨bk67, 0, none⟩) 1 1) (bytes := 1) En70 (by kernel_rfl) Hv71 rfl (bys_len _) (Reads.src (size := 1) (tx := 23) (e' := 5) (by kernel_rfl) (Hv71.heap.reads (k := 1) rfl) rfl (fun e => by cases e) (bys_one _)) (by kernel_rfl) (z := .int .u8 0) (by kernel_rfl) rfl (by decide) (by omega) (by unfold maxLen; omega) ?_
  intro ac76 wo77 ao72 cp73 En78 Hv79 hnz _
  clear hnz
  rw [← bys_append] at Hv79
  have ehz74 : (List.length el) + 1 = List.length (el ++ [(0 : UInt8)]) := (by first | (simp; done) | (simp; omega) | omega)
  rw [ehz74] at En78
  clear ehz74
  refine d_e [0,1,4,5,6] [] En78 fun ac80 En81 => ?_
  refine block_normal ?_
  refine then_normal ?_
  generalize hg0 : el ++ [(0 : UInt8)] = gl0 at Hv79 En81
  have hn0 : List.length gl0 = List.length lx + 2 + j + 0 := by rw [← hg0, List.length_append]; simp only [List.length_cons, List.length_nil]; omega
  have Hv82 := Hv79.pk [0] (M := [.vec ao72 cp73 1 (bys gl0) 5])
  refine d_r [0,1,4,5,6] [] En81 fun ac83 En84 => ?_
  refine then_normal ?_
  refine loop_once ?_
  refine wp_seq ?_
  refine wp_seq ?_
  refine d_r [0,1,4,5,6,29] [] En84 fun ac85 En86 => ?_
  refine then_normal ?_
  refine c_t En86 ?_
  refine wp_skip ?_
  refine then_normal ?_
  refine wp_seq ?_
  refine wp_block ?_
  refine region_from ?_
  refine d_k [0,1,4,5,6,32] [] 1 En86 fun ac87 En88 => ?_
  refine f_o ?_
  refine op_lit (d := some 33) (t := 23) (T := 5) (m := 1) (parts := #[(0, .int .u8 0)]) (xs := bys [(0 : UInt8)]) (sz := 1) En88 (by kernel_rfl) (by kernel_rfl) rfl (by decide) Hv82 ?_
  intro ac90 wo91 bk89 En92 Hv93
  refine f_o ?_
  refine op_append (d := some 34) (t := 23) (tx := 23) (ty := 23) (k := 0) (p := List.length gl0) (m := 1) (x := .slice (some ⟨bk89, 0, none⟩) 1 1) (bytes := 1) En92 (by kernel_rfl) Hv93 rfl (bys_len _) (Reads.src (size := 1) (tx := 23) (e' := 5) (by kernel_rfl) (Hv93.heap.reads (k := 1) rfl) rfl (fun e => by cases e) (bys_one _)) (by kernel_rfl) (z := .int .u8 0) (by kernel_rfl) rfl (by decide) (app_b1 hn0 hs hjb (by decide)) (app_b2 hn0 hs hjb (by decide)) ?_
  intro ac98 wo99 ao94 cp95 En100 Hv101 hnz _
  clear hnz
  rw [← bys_append] at Hv101
  have ehz96 : (List.length gl0) + 1 = List.length (gl0 ++ [(0 : UInt8)]) := (by first | (simp; done) | (simp; omega) | omega)
  rw [ehz96] at En100
  clear ehz96
  refine d_e [0,1,4,5,6] [] En100 fun ac102 En103 => ?_
  refine block_normal ?_
  refine then_normal ?_
  generalize hg1 : gl0 ++ [(0 : UInt8)] = gl1 at Hv101 En103
  have hn1 : List.length gl1 = List.length lx + 2 + j + 1 := by rw [← hg1, List.length_append]; simp only [List.length_cons, List.length_nil]; exact app_n hn0
  have Hv104 := Hv101.pk [0] (M := [.vec ao94 cp95 1 (bys gl1) 5])
  refine d_r [0,1,4,5,6] [] En103 fun ac105 En106 => ?_
  refine then_normal ?_
  refine loop_once ?_
  refine wp_seq ?_
  refine wp_seq ?_
  refine d_r [0,1,4,5,6,29] [] En106 fun ac107 En108 => ?_
  refine then_normal ?_
  refine c_t En108 ?_
  refine wp_skip ?_
  refine then_normal ?_
  refine wp_seq ?_
  refine wp_block ?_
  refine region_from ?_
  refine d_k [0,1,4,5,6,32] [] 1 En108 fun ac109 En110 => ?_
  refine f_o ?_
  refine op_lit (d := some 33) (t := 23) (T := 5) (m := 1) (parts := #[(0, .int .u8 0)]) (xs := bys [(0 : UInt8)]) (sz := 1) En110 (by kernel_rfl) (by kernel_rfl) rfl (by decide) Hv104 ?_
  intro ac112 wo113 bk111 En114 Hv115
  refine f_o ?_
  refine op_append (d := some 34) (t := 23) (tx := 23) (ty := 23) (k := 0) (p := List.length gl1) (m := 1) (x := .slice (some ⟨bk111, 0, none⟩) 1 1) (bytes := 1) En114 (by kernel_rfl) Hv115 rfl (bys_len _) (Reads.src (size := 1) (tx := 23) (e' := 5) (by kernel_rfl) (Hv115.heap.reads (k := 1) rfl) rfl (fun e => by cases e) (bys_one _)) (by kernel_rfl) (z := .int .u8 0) (by kernel_rfl) rfl (by decide) (app_b1 hn1 hs hjb (by decide)) (app_b2 hn1 hs hjb (by decide)) ?_
  intro ac120 wo121 ao116 cp117 En122 Hv123 hnz _
  clear hnz
  rw [← bys_append] at Hv123
  have ehz118 : (List.length gl1) + 1 = List.length (gl1 ++ [(0 : UInt8)]) := (by first | (simp; done) | (simp; omega) | omega)
  rw [ehz118] at En122
  clear ehz118
  refine d_e [0,1,4,5,6] [] En122 fun ac124 En125 => ?_
  refine block_normal ?_
  refine then_normal ?_
  generalize hg2 : gl1 ++ [(0 : UInt8)] = gl2 at Hv123 En125
  have hn2 : List.length gl2 = List.length lx + 2 + j + 2 := by rw [← hg2, List.length_append]; simp only [List.length_cons, List.length_nil]; exact app_n hn1
  have Hv126 := Hv123.pk [0] (M := [.vec ao116 cp117 1 (bys gl2) 5])
  refine d_r [0,1,4,5,6] [] En125 fun ac127 En128 => ?_
  refine then_normal ?_
  refine loop_once ?_
  refine wp_seq ?_
  refine wp_seq ?_
  refine d_r [0,1,4,5,6,29] [] En128 fun ac129 En130 => ?_
  refine then_normal ?_
  refine c_t En130 ?_
  refine wp_skip ?_
  refine then_normal ?_
  refine wp_seq ?_
  refine wp_block ?_
  refine region_from ?_
  refine d_k [0,1,4,5,6,32] [] 1 En130 fun ac131 En132 => ?_
  refine f_o ?_
  refine op_lit (d := some 33) (t := 23) (T := 5) (m := 1) (parts := #[(0, .int .u8 0)]) (xs := bys [(0 : UInt8)]) (sz := 1) En132 (by kernel_rfl) (by kernel_rfl) rfl (by decide) Hv126 ?_
  intro ac134 wo135 bk133 En136 Hv137
  refine f_o ?_
  refine op_append (d := some 34) (t := 23) (tx := 23) (ty := 23) (k := 0) (p := List.length gl2) (m := 1) (x := .slice (some ⟨bk133, 0, none⟩) 1 1) (bytes := 1) En136 (by kernel_rfl) Hv137 rfl (bys_len _) (Reads.src (size := 1) (tx := 23) (e' := 5) (by kernel_rfl) (Hv137.heap.reads (k := 1) rfl) rfl (fun e => by cases e) (bys_one _)) (by kernel_rfl) (z := .int .u8 0) (by kernel_rfl) rfl (by decide) (app_b1 hn2 hs hjb (by decide)) (app_b2 hn2 hs hjb (by decide)) ?_
  intro ac142 wo143 ao138 cp139 En144 Hv145 hnz _
  clear hnz
  rw [← bys_append] at Hv145
  have ehz140 : (List.length gl2) + 1 = List.length (gl2 ++ [(0 : UInt8)]) := (by first | (simp; done) | (simp; omega) | omega)
  rw [ehz140] at En144
  clear ehz140
  refine d_e [0,1,4,5,6] [] En144 fun ac146 En147 => ?_
  refine block_normal ?_
  refine then_normal ?_
  generalize hg3 : gl2 ++ [(0 : UInt8)] = gl3 at Hv145 En147
  have hn3 : List.length gl3 = List.length lx + 2 + j + 3 := by rw [← hg3, List.length_append]; simp only [List.length_cons, List.length_nil]; exact app_n hn2
  have Hv148 := Hv145.pk [0] (M := [.vec ao138 cp139 1 (bys gl3) 5])
  refine d_r [0,1,4,5,6] [] En147 fun ac149 En150 => ?_
  refine then_normal ?_
  refine loop_once ?_
  refine wp_seq ?_
  refine wp_seq ?_
  refine d_r [0,1,4,5,6,29] [] En150 fun ac151 En152 => ?_
  refine then_normal ?_
  refine c_t En152 ?_
  refine wp_skip ?_
  refine then_normal ?_
  refine wp_seq ?_
  refine wp_block ?_
  refine region_from ?_
  refine d_k [0,1,4,5,6,32] [] 1 En152 fun ac153 En154 => ?_
  refine f_o ?_
  refine op_lit (d := some 33) (t := 23) (T := 5) (m := 1) (parts := #[(0, .int .u8 0)]) (xs := bys [(0 : UInt8)]) (sz := 1) En154 (by kernel_rfl) (by kernel_rfl) rfl (by decide) Hv148 ?_
  intro ac156 wo157 bk155 En158 Hv159
  refine f_o ?_
  refine op_append (d := some 34) (t := 23) (tx := 23) (ty := 23) (k := 0) (p := List.length gl3) (m := 1) (x := .slice (some ⟨bk155, 0, none⟩) 1 1) (bytes := 1) En158 (by kernel_rfl) Hv159 rfl (bys_len _) (Reads.src (size := 1) (tx := 23) (e' := 5) (by kernel_rfl) (Hv159.heap.reads (k := 1) rfl) rfl (fun e => by cases e) (bys_one _)) (by kernel_rfl) (z := .int .u8 0) (by kernel_rfl) rfl (by decide) (app_b1 hn3 hs hjb (by decide)) (app_b2 hn3 hs hjb (by decide)) ?_
  intro ac164 wo165 ao160 cp161 En166 Hv167 hnz _
  clear hnz
  rw [← bys_append] at Hv167
  have ehz162 : (List.length gl3) + 1 = List.length (gl3 ++ [(0 : UInt8)]) := (by first | (simp; done) | (simp; omega) | omega)
  rw [ehz162] at En166
  clear ehz162
  refine d_e [0,1,4,5,6] [] En166 fun ac168 En169 => ?_
  refine block_normal ?_
  refine then_normal ?_
  generalize hg4 : gl3 ++ [(0 : UInt8)] = gl4 at Hv167 En169
  have hn4 : List.length gl4 = List.length lx + 2 + j + 4 := by rw [← hg4, List.length_append]; simp only [List.length_cons, List.length_nil]; exact app_n hn3
  have Hv170 := Hv167.pk [0] (M := [.vec ao160 cp161 1 (bys gl4) 5])
  refine d_r [0,1,4,5,6] [] En169 fun ac171 En172 => ?_
  refine then_normal ?_
  refine loop_once ?_
  refine wp_seq ?_
  refine wp_seq ?_
  refine d_r [0,1,4,5,6,29] [] En172 fun ac173 En174 => ?_
  refine then_normal ?_
  refine c_t En174 ?_
  refine wp_skip ?_
  refine then_normal ?_
  refine wp_seq ?_
  refine wp_block ?_
  refine region_from ?_
  refine d_k [0,1,4,5,6,32] [] 1 En174 fun ac175 En176 => ?_
  refine f_o ?_
  refine op_lit (d := some 33) (t := 23) (T := 5) (m := 1) (parts := #[(0, .int .u8 0)]) (xs := bys [(0 : UInt8)]) (sz := 1) En176 (by kernel_rfl) (by kernel_rfl) rfl (by decide) Hv170 ?_
  intro ac178 wo179 bk177 En180 Hv181
  refine f_o ?_
  refine op_append (d := some 34) (t := 23) (tx := 23) (ty := 23) (k := 0) (p := List.length gl4) (m := 1) (x := .slice (some ⟨bk177, 0, none⟩) 1 1) (bytes := 1) En180 (by kernel_rfl) Hv181 rfl (bys_len _) (Reads.src (size := 1) (tx := 23) (e' := 5) (by kernel_rfl) (Hv181.heap.reads (k := 1) rfl) rfl (fun e => by cases e) (bys_one _)) (by kernel_rfl) (z := .int .u8 0) (by kernel_rfl) rfl (by decide) (app_b1 hn4 hs hjb (by decide)) (app_b2 hn4 hs hjb (by decide)) ?_
  intro ac186 wo187 ao182 cp183 En188 Hv189 hnz _
  clear hnz
  rw [← bys_append] at Hv189
  have ehz184 : (List.length gl4) + 1 = List.length (gl4 ++ [(0 : UInt8)]) := (by first | (simp; done) | (simp; omega) | omega)
  rw [ehz184] at En188
  clear ehz184
  refine d_e [0,1,4,5,6] [] En188 fun ac190 En191 => ?_
  refine block_normal ?_
  refine then_normal ?_
  generalize hg5 : gl4 ++ [(0 : UInt8)] = gl5 at Hv189 En191
  have hn5 : List.length gl5 = List.length lx + 2 + j + 5 := by rw [← hg5, List.length_append]; simp only [List.length_cons, List.length_nil]; exact app_n hn4
  have Hv192 := Hv189.pk [0] (M := [.vec ao182 cp183 1 (bys gl5) 5])
  refine d_r [0,1,4,5,6] [] En191 fun ac193 En194 => ?_
  refine then_normal ?_
  refine loop_once ?_
  refine wp_seq ?_
  refine wp_seq ?_
  refine d_r [0,1,4,5,6,29] [] En194 fun ac195 En196 => ?_
  refine then_normal ?_
  refine c_t En196 ?_
  refine wp_skip ?_
  refine then_normal ?_
  refine wp_seq ?_
  refine wp_block ?_
  refine region_from ?_
  refine d_k [0,1,4,5,6,32] [] 1 En196 fun ac197 En198 => ?_
  refine f_o ?_
  refine op_lit (d := some 33) (t := 23) (T := 5) (m := 1) (parts := #[(0, .int .u8 0)]) (xs := bys [(0 : UInt8)]) (sz := 1) En198 (by kernel_rfl) (by kernel_rfl) rfl (by decide) Hv192 ?_
  intro ac200 wo201 bk199 En202 Hv203
  refine f_o ?_
  refine op_append (d := some 34) (t := 23) (tx := 23) (ty := 23) (k := 0) (p := List.length gl5) (m := 1) (x := .slice (some ⟨bk199, 0, none⟩) 1 1) (bytes := 1) En202 (by kernel_rfl) Hv203 rfl (bys_len _) (Reads.src (size := 1) (tx := 23) (e' := 5) (by kernel_rfl) (Hv203.heap.reads (k := 1) rfl) rfl (fun e => by cases e) (bys_one _)) (by kernel_rfl) (z := .int .u8 0) (by kernel_rfl) rfl (by decide) (app_b1 hn5 hs hjb (by decide)) (app_b2 hn5 hs hjb (by decide)) ?_
  intro ac208 wo209 ao204 cp205 En210 Hv211 hnz _
  clear hnz
  rw [← bys_append] at Hv211
  have ehz206 : (List.length gl5) + 1 = List.length (gl5 ++ [(0 : UInt8)]) := (by first | (simp; done) | (simp; omega) | omega)
  rw [ehz206] at En210
  clear ehz206
  refine d_e [0,1,4,5,6] [] En210 fun ac212 En213 => ?_
  refine block_normal ?_
  refine then_normal ?_
  generalize hg6 : gl5 ++ [(0 : UInt8)] = gl6 at Hv211 En213
  have hn6 : List.length gl6 = List.length lx + 2 + j + 6 := by rw [← hg6, List.length_append]; simp only [List.length_cons, List.length_nil]; exact app_n hn5
  have Hv214 := Hv211.pk [0] (M := [.vec ao204 cp205 1 (bys gl6) 5])
  refine d_r [0,1,4,5,6] [] En213 fun ac215 En216 => ?_
  refine then_normal ?_
  refine loop_once ?_
  refine wp_seq ?_
  refine wp_seq ?_
  refine d_r [0,1,4,5,6,29] [] En216 fun ac217 En218 => ?_
  refine then_normal ?_
  refine c_t En218 ?_
  refine wp_skip ?_
  refine then_normal ?_
  refine wp_seq ?_
  refine wp_block ?_
  refine region_from ?_
  refine d_k [0,1,4,5,6,32] [] 1 En218 fun ac219 En220 => ?_
  refine f_o ?_
  refine op_lit (d := some 33) (t := 23) (T := 5) (m := 1) (parts := #[(0, .int .u8 0)]) (xs := bys [(0 : UInt8)]) (sz := 1) En220 (by kernel_rfl) (by kernel_rfl) rfl (by decide) Hv214 ?_
  intro ac222 wo223 bk221 En224 Hv225
  refine f_o ?_
  refine op_append (d := some 34) (t := 23) (tx := 23) (ty := 23) (k := 0) (p := List.length gl6) (m := 1) (x := .slice (some ⟨bk221, 0, none⟩) 1 1) (bytes := 1) En224 (by kernel_rfl) Hv225 rfl (bys_len _) (Reads.src (size := 1) (tx := 23) (e' := 5) (by kernel_rfl) (Hv225.heap.reads (k := 1) rfl) rfl (fun e => by cases e) (bys_one _)) (by kernel_rfl) (z := .int .u8 0) (by kernel_rfl) rfl (by decide) (app_b1 hn6 hs hjb (by decide)) (app_b2 hn6 hs hjb (by decide)) ?_
  intro ac230 wo231 ao226 cp227 En232 Hv233 hnz _
  clear hnz
  rw [← bys_append] at Hv233
  have ehz228 : (List.length gl6) + 1 = List.length (gl6 ++ [(0 : UInt8)]) := (by first | (simp; done) | (simp; omega) | omega)
  rw [ehz228] at En232
  clear ehz228
  refine d_e [0,1,4,5,6] [] En232 fun ac234 En235 => ?_
  refine block_normal ?_
  refine then_normal ?_
  generalize hg7 : gl6 ++ [(0 : UInt8)] = gl7 at Hv233 En235
  have hn7 : List.length gl7 = List.length lx + 2 + j + 7 := by rw [← hg7, List.length_append]; simp only [List.length_cons, List.length_nil]; exact app_n hn6
  have Hv236 := Hv233.pk [0] (M := [.vec ao226 cp227 1 (bys gl7) 5])
  refine d_r [0,1,4,5,6] [] En235 fun ac237 En238 => ?_
  refine then_normal ?_
  refine loop_once ?_
  refine wp_seq ?_
  refine wp_seq ?_
  refine d_r [0,1,4,5,6,29] [] En238 fun ac239 En240 => ?_
  refine then_normal ?_
  refine c_f En240 ?_
  refine wp_exit ?_
  refine then_exit ?_
  refine then_exit ?_
  refine block_exit ?_
  refine then_normal ?_
  refine wp_seq ?_
  refine d_r [0,1,4,5,6,7] [(2, g_i .u64 (Go.Dbr.nat_to_u64 (a := ((List.length lx : Nat) : Int)) (n := List.length lx) rfl)), (3, g_i .u64 (Go.Dbr.u64_mul (x := UInt64.ofNat (List.length lx)) (y := (8 : UInt64)) rfl rfl))] En240 fun ac241 En242 => ?_
  refine then_normal ?_
  refine wp_seq ?_
  refine wp_seq ?_
  refine d_r [0,1,4,5,6,7,8] [] En242 fun ac243 En244 => ?_
  refine then_normal ?_
  refine wp_block ?_
  refine loop_enter ?_
  refine loop_once ?_
  refine wp_seq ?_
  refine wp_seq ?_
  refine d_r [0,1,4,5,6,7,8,40] [] En244 fun ac245 En246 => ?_
  refine then_normal ?_
  refine c_t En246 ?_
  refine wp_skip ?_
  refine then_normal ?_
  refine wp_seq ?_
  refine wp_block ?_
  refine region_from ?_
  refine d_k [0,1,4,5,6,7,8,43,48] [(4, g_i .u64 (Go.Dbr.u64_shr (x := (UInt64.ofNat (List.length lx)) * (8 : UInt64)) (n := 56) rfl (by decide))), (5, g_i .u8 (Go.Dbr.u64_to_u8 (x := ((UInt64.ofNat (List.length lx)) * (8 : UInt64)) >>> UInt64.ofNat 56) rfl))] 6 En246 fun ac247 En248 => ?_
  refine f_o ?_
  refine op_lit (d := some 49) (t := 23) (T := 5) (m := 1) (parts := #[(0, bv (UInt64.toUInt8 (((UInt64.ofNat (List.length lx)) * (8 : UInt64)) >>> UInt64.ofNat 56)))]) (xs := bys [UInt64.toUInt8 (((UInt64.ofNat (List.length lx)) * (8 : UInt64)) >>> UInt64.ofNat 56)]) (sz := 1) En248 (by kernel_rfl) (by kernel_rfl) rfl (by decide) Hv236 ?_
  intro ac250 wo251 bk249 En252 Hv253
  refine f_o ?_
  refine op_append (d := some 50) (t := 23) (tx := 23) (ty := 23) (k := 0) (p := List.length gl7) (m := 1) (x := .slice (some ⟨bk249, 0, none⟩) 1 1) (bytes := 1) En252 (by kernel_rfl) Hv253 rfl (bys_len _) (Reads.src (size := 1) (tx := 23) (e' := 5) (by kernel_rfl) (Hv253.heap.reads (k := 1) rfl) rfl (fun e => by cases e) (bys_one _)) (by kernel_rfl) (z := .int .u8 0) (by kernel_rfl) rfl (by decide) (app_b1 hn7 hs hjb (by decide)) (app_b2 hn7 hs hjb (by decide)) ?_
  intro ac258 wo259 ao254 cp255 En260 Hv261 hnz _
  clear hnz
  rw [← bys_append] at Hv261
  have ehz256 : (List.length gl7) + 1 = List.length (gl7 ++ [UInt64.toUInt8 (((UInt64.ofNat (List.length lx)) * (8 : UInt64)) >>> UInt64.ofNat 56)]) := (by first | (simp; done) | (simp; omega) | omega)
  rw [ehz256] at En260
  clear ehz256
  refine d_e [0,1,4,5,6,7,8] [] En260 fun ac262 En263 => ?_
  refine block_normal ?_
  refine then_normal ?_
  generalize hg8 : gl7 ++ [UInt64.toUInt8 (((UInt64.ofNat (List.length lx)) * (8 : UInt64)) >>> UInt64.ofNat 56)] = gl8 at Hv261 En263
  have hn8 : List.length gl8 = List.length lx + 2 + j + 8 := by rw [← hg8, List.length_append]; simp only [List.length_cons, List.length_nil]; exact app_n hn7
  have Hv264 := Hv261.pk [0] (M := [.vec ao254 cp255 1 (bys gl8) 5])
  refine d_r [0,1,4,5,6,7,8] [] En263 fun ac265 En266 => ?_
  refine then_normal ?_
  refine loop_once ?_
  refine wp_seq ?_
  refine wp_seq ?_
  refine d_r [0,1,4,5,6,7,8,40] [] En266 fun ac267 En268 => ?_
  refine then_normal ?_
  refine c_t En268 ?_
  refine wp_skip ?_
  refine then_normal ?_
  refine wp_seq ?_
  refine wp_block ?_
  refine region_from ?_
  refine d_k [0,1,4,5,6,7,8,43,48] [(4, g_i .u64 (Go.Dbr.u64_shr (x := (UInt64.ofNat (List.length lx)) * (8 : UInt64)) (n := 48) rfl (by decide))), (5, g_i .u8 (Go.Dbr.u64_to_u8 (x := ((UInt64.ofNat (List.length lx)) * (8 : UInt64)) >>> UInt64.ofNat 48) rfl))] 6 En268 fun ac269 En270 => ?_
  refine f_o ?_
  refine op_lit (d := some 49) (t := 23) (T := 5) (m := 1) (parts := #[(0, bv (UInt64.toUInt8 (((UInt64.ofNat (List.length lx)) * (8 : UInt64)) >>> UInt64.ofNat 48)))]) (xs := bys [UInt64.toUInt8 (((UInt64.ofNat (List.length lx)) * (8 : UInt64)) >>> UInt64.ofNat 48)]) (sz := 1) En270 (by kernel_rfl) (by kernel_rfl) rfl (by decide) Hv264 ?_
  intro ac272 wo273 bk271 En274 Hv275
  refine f_o ?_
  refine op_append (d := some 50) (t := 23) (tx := 23) (ty := 23) (k := 0) (p := List.length gl8) (m := 1) (x := .slice (some ⟨bk271, 0, none⟩) 1 1) (bytes := 1) En274 (by kernel_rfl) Hv275 rfl (bys_len _) (Reads.src (size := 1) (tx := 23) (e' := 5) (by kernel_rfl) (Hv275.heap.reads (k := 1) rfl) rfl (fun e => by cases e) (bys_one _)) (by kernel_rfl) (z := .int .u8 0) (by kernel_rfl) rfl (by decide) (app_b1 hn8 hs hjb (by decide)) (app_b2 hn8 hs hjb (by decide)) ?_
  intro ac280 wo281 ao276 cp277 En282 Hv283 hnz _
  clear hnz
  rw [← bys_append] at Hv283
  have ehz278 : (List.length gl8) + 1 = List.length (gl8 ++ [UInt64.toUInt8 (((UInt64.ofNat (List.length lx)) * (8 : UInt64)) >>> UInt64.ofNat 48)]) := (by first | (simp; done) | (simp; omega) | omega)
  rw [ehz278] at En282
  clear ehz278
  refine d_e [0,1,4,5,6,7,8] [] En282 fun ac284 En285 => ?_
  refine block_normal ?_
  refine then_normal ?_
  generalize hg9 : gl8 ++ [UInt64.toUInt8 (((UInt64.ofNat (List.length lx)) * (8 : UInt64)) >>> UInt64.ofNat 48)] = gl9 at Hv283 En285
  have hn9 : List.length gl9 = List.length lx + 2 + j + 9 := by rw [← hg9, List.length_append]; simp only [List.length_cons, List.length_nil]; exact app_n hn8
  have Hv286 := Hv283.pk [0] (M := [.vec ao276 cp277 1 (bys gl9) 5])
  refine d_r [0,1,4,5,6,7,8] [] En285 fun ac287 En288 => ?_
  refine then_normal ?_
  refine loop_once ?_
  refine wp_seq ?_
  refine wp_seq ?_
  refine d_r [0,1,4,5,6,7,8,40] [] En288 fun ac289 En290 => ?_
  refine then_normal ?_
  refine c_t En290 ?_
  refine wp_skip ?_
  refine then_normal ?_
  refine wp_seq ?_
  refine wp_block ?_
  refine region_from ?_
  refine d_k [0,1,4,5,6,7,8,43,48] [(4, g_i .u64 (Go.Dbr.u64_shr (x := (UInt64.ofNat (List.length lx)) * (8 : UInt64)) (n := 40) rfl (by decide))), (5, g_i .u8 (Go.Dbr.u64_to_u8 (x := ((UInt64.ofNat (List.length lx)) * (8 : UInt64)) >>> UInt64.ofNat 40) rfl))] 6 En290 fun ac291 En292 => ?_
  refine f_o ?_
  refine op_lit (d := some 49) (t := 23) (T := 5) (m := 1) (parts := #[(0, bv (UInt64.toUInt8 (((UInt64.ofNat (List.length lx)) * (8 : UInt64)) >>> UInt64.ofNat 40)))]) (xs := bys [UInt64.toUInt8 (((UInt64.ofNat (List.length lx)) * (8 : UInt64)) >>> UInt64.ofNat 40)]) (sz := 1) En292 (by kernel_rfl) (by kernel_rfl) rfl (by decide) Hv286 ?_
  intro ac294 wo295 bk293 En296 Hv297
  refine f_o ?_
  refine op_append (d := some 50) (t := 23) (tx := 23) (ty := 23) (k := 0) (p := List.length gl9) (m := 1) (x := .slice (some ⟨bk293, 0, none⟩) 1 1) (bytes := 1) En296 (by kernel_rfl) Hv297 rfl (bys_len _) (Reads.src (size := 1) (tx := 23) (e' := 5) (by kernel_rfl) (Hv297.heap.reads (k := 1) rfl) rfl (fun e => by cases e) (bys_one _)) (by kernel_rfl) (z := .int .u8 0) (by kernel_rfl) rfl (by decide) (app_b1 hn9 hs hjb (by decide)) (app_b2 hn9 hs hjb (by decide)) ?_
  intro ac302 wo303 ao298 cp299 En304 Hv305 hnz _
  clear hnz
  rw [← bys_append] at Hv305
  have ehz300 : (List.length gl9) + 1 = List.length (gl9 ++ [UInt64.toUInt8 (((UInt64.ofNat (List.length lx)) * (8 : UInt64)) >>> UInt64.ofNat 40)]) := (by first | (simp; done) | (simp; omega) | omega)
  rw [ehz300] at En304
  clear ehz300
  refine d_e [0,1,4,5,6,7,8] [] En304 fun ac306 En307 => ?_
  refine block_normal ?_
  refine then_normal ?_
  generalize hg10 : gl9 ++ [UInt64.toUInt8 (((UInt64.ofNat (List.length lx)) * (8 : UInt64)) >>> UInt64.ofNat 40)] = gl10 at Hv305 En307
  have hn10 : List.length gl10 = List.length lx + 2 + j + 10 := by rw [← hg10, List.length_append]; simp only [List.length_cons, List.length_nil]; exact app_n hn9
  have Hv308 := Hv305.pk [0] (M := [.vec ao298 cp299 1 (bys gl10) 5])
  refine d_r [0,1,4,5,6,7,8] [] En307 fun ac309 En310 => ?_
  refine then_normal ?_
  refine loop_once ?_
  refine wp_seq ?_
  refine wp_seq ?_
  refine d_r [0,1,4,5,6,7,8,40] [] En310 fun ac311 En312 => ?_
  refine then_normal ?_
  refine c_t En312 ?_
  refine wp_skip ?_
  refine then_normal ?_
  refine wp_seq ?_
  refine wp_block ?_
  refine region_from ?_
  refine d_k [0,1,4,5,6,7,8,43,48] [(4, g_i .u64 (Go.Dbr.u64_shr (x := (UInt64.ofNat (List.length lx)) * (8 : UInt64)) (n := 32) rfl (by decide))), (5, g_i .u8 (Go.Dbr.u64_to_u8 (x := ((UInt64.ofNat (List.length lx)) * (8 : UInt64)) >>> UInt64.ofNat 32) rfl))] 6 En312 fun ac313 En314 => ?_
  refine f_o ?_
  refine op_lit (d := some 49) (t := 23) (T := 5) (m := 1) (parts := #[(0, bv (UInt64.toUInt8 (((UInt64.ofNat (List.length lx)) * (8 : UInt64)) >>> UInt64.ofNat 32)))]) (xs := bys [UInt64.toUInt8 (((UInt64.ofNat (List.length lx)) * (8 : UInt64)) >>> UInt64.ofNat 32)]) (sz := 1) En314 (by kernel_rfl) (by kernel_rfl) rfl (by decide) Hv308 ?_
  intro ac316 wo317 bk315 En318 Hv319
  refine f_o ?_
  refine op_append (d := some 50) (t := 23) (tx := 23) (ty := 23) (k := 0) (p := List.length gl10) (m := 1) (x := .slice (some ⟨bk315, 0, none⟩) 1 1) (bytes := 1) En318 (by kernel_rfl) Hv319 rfl (bys_len _) (Reads.src (size := 1) (tx := 23) (e' := 5) (by kernel_rfl) (Hv319.heap.reads (k := 1) rfl) rfl (fun e => by cases e) (bys_one _)) (by kernel_rfl) (z := .int .u8 0) (by kernel_rfl) rfl (by decide) (app_b1 hn10 hs hjb (by decide)) (app_b2 hn10 hs hjb (by decide)) ?_
  intro ac324 wo325 ao320 cp321 En326 Hv327 hnz _
  clear hnz
  rw [← bys_append] at Hv327
  have ehz322 : (List.length gl10) + 1 = List.length (gl10 ++ [UInt64.toUInt8 (((UInt64.ofNat (List.length lx)) * (8 : UInt64)) >>> UInt64.ofNat 32)]) := (by first | (simp; done) | (simp; omega) | omega)
  rw [ehz322] at En326
  clear ehz322
  refine d_e [0,1,4,5,6,7,8] [] En326 fun ac328 En329 => ?_
  refine block_normal ?_
  refine then_normal ?_
  generalize hg11 : gl10 ++ [UInt64.toUInt8 (((UInt64.ofNat (List.length lx)) * (8 : UInt64)) >>> UInt64.ofNat 32)] = gl11 at Hv327 En329
  have hn11 : List.length gl11 = List.length lx + 2 + j + 11 := by rw [← hg11, List.length_append]; simp only [List.length_cons, List.length_nil]; exact app_n hn10
  have Hv330 := Hv327.pk [0] (M := [.vec ao320 cp321 1 (bys gl11) 5])
  refine d_r [0,1,4,5,6,7,8] [] En329 fun ac331 En332 => ?_
  refine then_normal ?_
  refine loop_once ?_
  refine wp_seq ?_
  refine wp_seq ?_
  refine d_r [0,1,4,5,6,7,8,40] [] En332 fun ac333 En334 => ?_
  refine then_normal ?_
  refine c_t En334 ?_
  refine wp_skip ?_
  refine then_normal ?_
  refine wp_seq ?_
  refine wp_block ?_
  refine region_from ?_
  refine d_k [0,1,4,5,6,7,8,43,48] [(4, g_i .u64 (Go.Dbr.u64_shr (x := (UInt64.ofNat (List.length lx)) * (8 : UInt64)) (n := 24) rfl (by decide))), (5, g_i .u8 (Go.Dbr.u64_to_u8 (x := ((UInt64.ofNat (List.length lx)) * (8 : UInt64)) >>> UInt64.ofNat 24) rfl))] 6 En334 fun ac335 En336 => ?_
  refine f_o ?_
  refine op_lit (d := some 49) (t := 23) (T := 5) (m := 1) (parts := #[(0, bv (UInt64.toUInt8 (((UInt64.ofNat (List.length lx)) * (8 : UInt64)) >>> UInt64.ofNat 24)))]) (xs := bys [UInt64.toUInt8 (((UInt64.ofNat (List.length lx)) * (8 : UInt64)) >>> UInt64.ofNat 24)]) (sz := 1) En336 (by kernel_rfl) (by kernel_rfl) rfl (by decide) Hv330 ?_
  intro ac338 wo339 bk337 En340 Hv341
  refine f_o ?_
  refine op_append (d := some 50) (t := 23) (tx := 23) (ty := 23) (k := 0) (p := List.length gl11) (m := 1) (x := .slice (some ⟨bk337, 0, none⟩) 1 1) (bytes := 1) En340 (by kernel_rfl) Hv341 rfl (bys_len _) (Reads.src (size := 1) (tx := 23) (e' := 5) (by kernel_rfl) (Hv341.heap.reads (k := 1) rfl) rfl (fun e => by cases e) (bys_one _)) (by kernel_rfl) (z := .int .u8 0) (by kernel_rfl) rfl (by decide) (app_b1 hn11 hs hjb (by decide)) (app_b2 hn11 hs hjb (by decide)) ?_
  intro ac346 wo347 ao342 cp343 En348 Hv349 hnz _
  clear hnz
  rw [← bys_append] at Hv349
  have ehz344 : (List.length gl11) + 1 = List.length (gl11 ++ [UInt64.toUInt8 (((UInt64.ofNat (List.length lx)) * (8 : UInt64)) >>> UInt64.ofNat 24)]) := (by first | (simp; done) | (simp; omega) | omega)
  rw [ehz344] at En348
  clear ehz344
  refine d_e [0,1,4,5,6,7,8] [] En348 fun ac350 En351 => ?_
  refine block_normal ?_
  refine then_normal ?_
  generalize hg12 : gl11 ++ [UInt64.toUInt8 (((UInt64.ofNat (List.length lx)) * (8 : UInt64)) >>> UInt64.ofNat 24)] = gl12 at Hv349 En351
  have hn12 : List.length gl12 = List.length lx + 2 + j + 12 := by rw [← hg12, List.length_append]; simp only [List.length_cons, List.length_nil]; exact app_n hn11
  have Hv352 := Hv349.pk [0] (M := [.vec ao342 cp343 1 (bys gl12) 5])
  refine d_r [0,1,4,5,6,7,8] [] En351 fun ac353 En354 => ?_
  refine then_normal ?_
  refine loop_once ?_
  refine wp_seq ?_
  refine wp_seq ?_
  refine d_r [0,1,4,5,6,7,8,40] [] En354 fun ac355 En356 => ?_
  refine then_normal ?_
  refine c_t En356 ?_
  refine wp_skip ?_
  refine then_normal ?_
  refine wp_seq ?_
  refine wp_block ?_
  refine region_from ?_
  refine d_k [0,1,4,5,6,7,8,43,48] [(4, g_i .u64 (Go.Dbr.u64_shr (x := (UInt64.ofNat (List.length lx)) * (8 : UInt64)) (n := 16) rfl (by decide))), (5, g_i .u8 (Go.Dbr.u64_to_u8 (x := ((UInt64.ofNat (List.length lx)) * (8 : UInt64)) >>> UInt64.ofNat 16) rfl))] 6 En356 fun ac357 En358 => ?_
  refine f_o ?_
  refine op_lit (d := some 49) (t := 23) (T := 5) (m := 1) (parts := #[(0, bv (UInt64.toUInt8 (((UInt64.ofNat (List.length lx)) * (8 : UInt64)) >>> UInt64.ofNat 16)))]) (xs := bys [UInt64.toUInt8 (((UInt64.ofNat (List.length lx)) * (8 : UInt64)) >>> UInt64.ofNat 16)]) (sz := 1) En358 (by kernel_rfl) (by kernel_rfl) rfl (by decide) Hv352 ?_
  intro ac360 wo361 bk359 En362 Hv363
  refine f_o ?_
  refine op_append (d := some 50) (t := 23) (tx := 23) (ty := 23) (k := 0) (p := List.length gl12) (m := 1) (x := .slice (some ⟨bk359, 0, none⟩) 1 1) (bytes := 1) En362 (by kernel_rfl) Hv363 rfl (bys_len _) (Reads.src (size := 1) (tx := 23) (e' := 5) (by kernel_rfl) (Hv363.heap.reads (k := 1) rfl) rfl (fun e => by cases e) (bys_one _)) (by kernel_rfl) (z := .int .u8 0) (by kernel_rfl) rfl (by decide) (app_b1 hn12 hs hjb (by decide)) (app_b2 hn12 hs hjb (by decide)) ?_
  intro ac368 wo369 ao364 cp365 En370 Hv371 hnz _
  clear hnz
  rw [← bys_append] at Hv371
  have ehz366 : (List.length gl12) + 1 = List.length (gl12 ++ [UInt64.toUInt8 (((UInt64.ofNat (List.length lx)) * (8 : UInt64)) >>> UInt64.ofNat 16)]) := (by first | (simp; done) | (simp; omega) | omega)
  rw [ehz366] at En370
  clear ehz366
  refine d_e [0,1,4,5,6,7,8] [] En370 fun ac372 En373 => ?_
  refine block_normal ?_
  refine then_normal ?_
  generalize hg13 : gl12 ++ [UInt64.toUInt8 (((UInt64.ofNat (List.length lx)) * (8 : UInt64)) >>> UInt64.ofNat 16)] = gl13 at Hv371 En373
  have hn13 : List.length gl13 = List.length lx + 2 + j + 13 := by rw [← hg13, List.length_append]; simp only [List.length_cons, List.length_nil]; exact app_n hn12
  have Hv374 := Hv371.pk [0] (M := [.vec ao364 cp365 1 (bys gl13) 5])
  refine d_r [0,1,4,5,6,7,8] [] En373 fun ac375 En376 => ?_
  refine then_normal ?_
  refine loop_once ?_
  refine wp_seq ?_
  refine wp_seq ?_
  refine d_r [0,1,4,5,6,7,8,40] [] En376 fun ac377 En378 => ?_
  refine then_normal ?_
  refine c_t En378 ?_
  refine wp_skip ?_
  refine then_normal ?_
  refine wp_seq ?_
  refine wp_block ?_
  refine region_from ?_
  refine d_k [0,1,4,5,6,7,8,43,48] [(4, g_i .u64 (Go.Dbr.u64_shr (x := (UInt64.ofNat (List.length lx)) * (8 : UInt64)) (n := 8) rfl (by decide))), (5, g_i .u8 (Go.Dbr.u64_to_u8 (x := ((UInt64.ofNat (List.length lx)) * (8 : UInt64)) >>> UInt64.ofNat 8) rfl))] 6 En378 fun ac379 En380 => ?_
  refine f_o ?_
  refine op_lit (d := some 49) (t := 23) (T := 5) (m := 1) (parts := #[(0, bv (UInt64.toUInt8 (((UInt64.ofNat (List.length lx)) * (8 : UInt64)) >>> UInt64.ofNat 8)))]) (xs := bys [UInt64.toUInt8 (((UInt64.ofNat (List.length lx)) * (8 : UInt64)) >>> UInt64.ofNat 8)]) (sz := 1) En380 (by kernel_rfl) (by kernel_rfl) rfl (by decide) Hv374 ?_
  intro ac382 wo383 bk381 En384 Hv385
  refine f_o ?_
  refine op_append (d := some 50) (t := 23) (tx := 23) (ty := 23) (k := 0) (p := List.length gl13) (m := 1) (x := .slice (some ⟨bk381, 0, none⟩) 1 1) (bytes := 1) En384 (by kernel_rfl) Hv385 rfl (bys_len _) (Reads.src (size := 1) (tx := 23) (e' := 5) (by kernel_rfl) (Hv385.heap.reads (k := 1) rfl) rfl (fun e => by cases e) (bys_one _)) (by kernel_rfl) (z := .int .u8 0) (by kernel_rfl) rfl (by decide) (app_b1 hn13 hs hjb (by decide)) (app_b2 hn13 hs hjb (by decide)) ?_
  intro ac390 wo391 ao386 cp387 En392 Hv393 hnz _
  clear hnz
  rw [← bys_append] at Hv393
  have ehz388 : (List.length gl13) + 1 = List.length (gl13 ++ [UInt64.toUInt8 (((UInt64.ofNat (List.length lx)) * (8 : UInt64)) >>> UInt64.ofNat 8)]) := (by first | (simp; done) | (simp; omega) | omega)
  rw [ehz388] at En392
  clear ehz388
  refine d_e [0,1,4,5,6,7,8] [] En392 fun ac394 En395 => ?_
  refine block_normal ?_
  refine then_normal ?_
  generalize hg14 : gl13 ++ [UInt64.toUInt8 (((UInt64.ofNat (List.length lx)) * (8 : UInt64)) >>> UInt64.ofNat 8)] = gl14 at Hv393 En395
  have hn14 : List.length gl14 = List.length lx + 2 + j + 14 := by rw [← hg14, List.length_append]; simp only [List.length_cons, List.length_nil]; exact app_n hn13
  have Hv396 := Hv393.pk [0] (M := [.vec ao386 cp387 1 (bys gl14) 5])
  refine d_r [0,1,4,5,6,7,8] [] En395 fun ac397 En398 => ?_
  refine then_normal ?_
  refine loop_once ?_
  refine wp_seq ?_
  refine wp_seq ?_
  refine d_r [0,1,4,5,6,7,8,40] [] En398 fun ac399 En400 => ?_
  refine then_normal ?_
  refine c_t En400 ?_
  refine wp_skip ?_
  refine then_normal ?_
  refine wp_seq ?_
  refine wp_block ?_
  refine region_from ?_
  refine d_k [0,1,4,5,6,7,8,43,48] [(4, g_i .u64 (Go.Dbr.u64_shr (x := (UInt64.ofNat (List.length lx)) * (8 : UInt64)) (n := 0) rfl (by decide))), (5, g_i .u8 (Go.Dbr.u64_to_u8 (x := ((UInt64.ofNat (List.length lx)) * (8 : UInt64)) >>> UInt64.ofNat 0) rfl))] 6 En400 fun ac401 En402 => ?_
  refine f_o ?_
  refine op_lit (d := some 49) (t := 23) (T := 5) (m := 1) (parts := #[(0, bv (UInt64.toUInt8 (((UInt64.ofNat (List.length lx)) * (8 : UInt64)) >>> UInt64.ofNat 0)))]) (xs := bys [UInt64.toUInt8 (((UInt64.ofNat (List.length lx)) * (8 : UInt64)) >>> UInt64.ofNat 0)]) (sz := 1) En402 (by kernel_rfl) (by kernel_rfl) rfl (by decide) Hv396 ?_
  intro ac404 wo405 bk403 En406 Hv407
  refine f_o ?_
  refine op_append (d := some 50) (t := 23) (tx := 23) (ty := 23) (k := 0) (p := List.length gl14) (m := 1) (x := .slice (some ⟨bk403, 0, none⟩) 1 1) (bytes := 1) En406 (by kernel_rfl) Hv407 rfl (bys_len _) (Reads.src (size := 1) (tx := 23) (e' := 5) (by kernel_rfl) (Hv407.heap.reads (k := 1) rfl) rfl (fun e => by cases e) (bys_one _)) (by kernel_rfl) (z := .int .u8 0) (by kernel_rfl) rfl (by decide) (app_b1 hn14 hs hjb (by decide)) (app_b2 hn14 hs hjb (by decide)) ?_
  intro ac412 wo413 ao408 cp409 En414 Hv415 hnz _
  clear hnz
  rw [← bys_append] at Hv415
  have ehz410 : (List.length gl14) + 1 = List.length (gl14 ++ [UInt64.toUInt8 (((UInt64.ofNat (List.length lx)) * (8 : UInt64)) >>> UInt64.ofNat 0)]) := (by first | (simp; done) | (simp; omega) | omega)
  rw [ehz410] at En414
  clear ehz410
  refine d_e [0,1,4,5,6,7,8] [] En414 fun ac416 En417 => ?_
  refine block_normal ?_
  refine then_normal ?_
  generalize hg15 : gl14 ++ [UInt64.toUInt8 (((UInt64.ofNat (List.length lx)) * (8 : UInt64)) >>> UInt64.ofNat 0)] = gl15 at Hv415 En417
  have hn15 : List.length gl15 = List.length lx + 2 + j + 15 := by rw [← hg15, List.length_append]; simp only [List.length_cons, List.length_nil]; exact app_n hn14
  have Hv418 := Hv415.pk [0] (M := [.vec ao408 cp409 1 (bys gl15) 5])
  refine d_r [0,1,4,5,6,7,8] [] En417 fun ac419 En420 => ?_
  refine then_normal ?_
  refine loop_once ?_
  refine wp_seq ?_
  refine wp_seq ?_
  refine d_r [0,1,4,5,6,7,8,40] [] En420 fun ac421 En422 => ?_
  refine then_normal ?_
  refine c_f En422 ?_
  refine wp_exit ?_
  refine then_exit ?_
  refine then_exit ?_
  refine block_exit ?_
  refine then_normal ?_
  refine wp_seq ?_
  refine d_r [0,1,4,5,6,7,8] [] En422 fun ac423 En424 => ?_
  refine then_normal ?_
  refine wp_ret ?_
  refine d_ret1 (t := 4) (v := .slice ao408 (List.length gl15) cp409) En424 (by kernel_rfl) (by kernel_rfl) ?_
  have hl : gl15 = lx ++ padB 128 (List.length lx % 128) (List.length lx) := by rw [← hg15, ← hg14, ← hg13, ← hg12, ← hg11, ← hg10, ← hg9, ← hg8, ← hg7, ← hg6, ← hg5, ← hg4, ← hg3, ← hg2, ← hg1, ← hg0, heel, hjp]; simp [padB, be8, List.replicate]
  have Hf425 := Hv418.pk [0] (M := [.vec ao408 cp409 1 (bys gl15) 5])
  rw [hl] at Hf425
  exact ⟨_, _, by rw [hl], Hf425⟩

theorem turn32_ref (w : World) (x : UInt32) (n : Nat) (h0 : 0 < n) (hn : n < 32) : Calls Tryd.prog 42 #[uv32 x, ni n] w fun e w' => e = .returned (uv32 (rotr32 x n)) ∧ Ev w [] w' [] := by
 refine d_0 [(0, uv32 x), (1, ni n)] 13 Go.Proofs.Tryd.func42 Go.Proofs.Tryd.ntmps42 (Heap.nil _) fun act0 En0 Hv0 => ?_
 refine d_s [0,1,4] [] En0 fun ac1 En2 => ?_
 refine wp_seq ?_
 refine r_c (fun ac wo => Env ac 13 [(4, uv32 ((x >>> UInt32.ofNat n) ||| (x <<< UInt32.ofNat (32 - n))))] ∧ Ev w [] wo []) ?_ ?_
 ·
  refine draw_any (by kernel_rfl) 9 (by kernel_rfl) ?_
  have wo3 := Hv0.trans (Ev.drew Hv0.heap)
  refine q_a [0,1] [] 7 En2 fun ac14 En15 => ?_
  refine q_g 2 En15 (fun _ => Go.Dbr.run_shr_u32 x .i64 n (by omega) _) fun ac16 En17 => ?_
  refine q_a [3,4,5] [(5, g_n (w_r (e := (32 : Int) - ((n : Nat) : Int)) (x := ((32 - n : Nat) : Int)) (by omega)))] 3 En17 fun ac18 En19 => ?_
  refine q_g 6 En19 (fun _ => Go.Dbr.run_shl_u32 x .i64 (32 - n) (by omega) _) fun ac20 En21 => ?_
  refine q_a [7,8] [(7, g_i .u32 (Go.Dbr.u32_or (x := x >>> UInt32.ofNat n) (y := x <<< UInt32.ofNat (32 - n)) rfl rfl))] 0 En21 fun ac22 En23 => ?_
  exact a_e ⟨En23.sb, wo3.pk []⟩
 rintro ac24 wo25 ⟨En26, Hv27⟩
 refine then_normal ?_
 refine wp_ret ?_
 refine d_ret1 (t := 4) (v := uv32 ((x >>> UInt32.ofNat n) ||| (x <<< UInt32.ofNat (32 - n)))) En26 (by kernel_rfl) (by kernel_rfl) ?_
 exact ⟨rfl, Hv27.pk []⟩

theorem turn64_ref (w : World) (x : UInt64) (n : Nat) (h0 : 0 < n) (hn : n < 64) : Calls Tryd.prog 43 #[uv64 x, ni n] w fun e w' => e = .returned (uv64 (rotr64 x n)) ∧ Ev w [] w' [] := by
 refine d_0 [(0, uv64 x), (1, ni n)] 13 Go.Proofs.Tryd.func43 Go.Proofs.Tryd.ntmps43 (Heap.nil _) fun act0 En0 Hv0 => ?_
 refine d_s [0,1,4] [] En0 fun ac1 En2 => ?_
 refine wp_seq ?_
 refine r_c (fun ac wo => Env ac 13 [(4, uv64 ((x >>> UInt64.ofNat n) ||| (x <<< UInt64.ofNat (64 - n))))] ∧ Ev w [] wo []) ?_ ?_
 ·
  refine draw_any (by kernel_rfl) 9 (by kernel_rfl) ?_
  have wo3 := Hv0.trans (Ev.drew Hv0.heap)
  refine q_a [0,1] [] 7 En2 fun ac14 En15 => ?_
  refine q_g 2 En15 (fun _ => Go.Dbr.run_shr_u64 x .i64 n (by omega) _) fun ac16 En17 => ?_
  refine q_a [3,4,5] [(5, g_n (w_r (e := (64 : Int) - ((n : Nat) : Int)) (x := ((64 - n : Nat) : Int)) (by omega)))] 3 En17 fun ac18 En19 => ?_
  refine q_g 6 En19 (fun _ => Go.Dbr.run_shl_u64 x .i64 (64 - n) (by omega) _) fun ac20 En21 => ?_
  refine q_a [7,8] [(7, g_i .u64 (Go.Dbr.u64_or (x := x >>> UInt64.ofNat n) (y := x <<< UInt64.ofNat (64 - n)) rfl rfl))] 0 En21 fun ac22 En23 => ?_
  exact a_e ⟨En23.sb, wo3.pk []⟩
 rintro ac24 wo25 ⟨En26, Hv27⟩
 refine then_normal ?_
 refine wp_ret ?_
 refine d_ret1 (t := 4) (v := uv64 ((x >>> UInt64.ofNat n) ||| (x <<< UInt64.ofNat (64 - n)))) En26 (by kernel_rfl) (by kernel_rfl) ?_
 exact ⟨rfl, Hv27.pk []⟩

end Go.Proofs.YtbpihljkkkeijaaDoor
