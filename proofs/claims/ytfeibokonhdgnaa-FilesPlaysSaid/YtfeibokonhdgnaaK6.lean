/- Layer 2: FilesOwn, FilesTorn, walked. -/
import Derived.Test.YtfeibokonhdgnaaK5
namespace Go.Proofs.Ytfeibokonhdgnaa
open Go.Dbr
set_option maxRecDepth 100000
set_option maxHeartbeats 2000000
set_option linter.unusedVariables false
set_option linter.unusedSimpArgs false

theorem own_long (a_b : Option Addr) (c_b : Nat) (b : List UInt8) (ot : List UInt8) (a_mo : Option Addr) (c_mo : Nat) (mo : List UInt8) (cut : UInt16) (w : World) (i_b : InB w [] a_b c_b b) (s_b : List.length b ≤ 140737488351232) (s_ot : (List.length ot ≤ 140737488351232)) (i_mo : InB w [] a_mo c_mo mo) (s_mo : List.length mo ≤ 140737488351232) (hbl : 65536 < List.length b) : Calls Try.prog 3 #[.slice a_b (List.length b) c_b, .string (bstr ot), .slice a_mo (List.length mo) c_mo, uv16 cut] w fun e w' => e = .returned (.bool true) ∧ Ev w [] w' [] := by
 have hbs := i_b.small
 refine d_0 [(0, .slice a_b (List.length b) c_b), (1, .string (bstr ot)), (2, .slice a_mo (List.length mo) c_mo), (3, uv16 cut)] 114 Go.Proofs.Try.func3 Go.Proofs.Try.ntmps3 (Heap.nil _) fun act0 En0 Hv0 => ?_
 refine d_s [0,1,2,3,8] [] En0 fun ac1 En2 => ?_
 refine wp_seq ?_
 refine region_from ?_
 refine f_o ?_
 refine c_p En2 Hv0 (head_ok _) fun ac7 wo4 En8 Hv9 => ?_
 refine d_e [0,1,2,3,8,9] [] En8 fun ac10 En11 => ?_
 refine then_normal ?_
 refine wp_seq ?_
 refine region_from ?_
 refine f_o ?_
 refine c_0 En11 Hv9 (new_go _) ?_
 rintro _ wo15 ⟨sb12, mb13, rfl, he16⟩
 refine ⟨_, _, _, rfl, he16, rfl, fun ac18 En19 Hv20 => ?_⟩
 refine d_e [0,1,2,3,8,9,10] [] En19 fun ac21 En22 => ?_
 refine then_normal ?_
 refine wp_seq ?_
 refine d_s [0,1,2,3,8,10,27] [] En22 fun ac23 En24 => ?_
 refine c_f En24 ?_
 refine wp_skip ?_
 refine then_normal ?_
 refine wp_seq ?_
 refine region_from ?_
 refine f_o ?_
 refine op_lit (d := some 28) (t := 22) (T := 5) (m := 0) (parts := #[]) (xs := bys []) (sz := 1) En24 (by kernel_rfl) (by kernel_rfl) rfl (by decide) Hv20 ?_
 intro ac26 wo27 bk25 En28 Hv29
 refine d_k [0,1,2,3,8,10,28,29] [] 2 En28 fun ac30 En31 => ?_
 refine f_o ?_
 have hsm32 := i_b.small
 refine op_append (d := some 30) (t := 22) (tx := 22) (ty := 22) (k := 2) (p := 0) (m := List.length b) (x := .slice a_b (List.length b) c_b) (bytes := 1) En31 (by kernel_rfl) Hv29 rfl rfl (Reads.src (size := 1) (tx := 22) (e' := 5) (by kernel_rfl) (i_b.ev Hv29).reads (bys_len _) i_b.nz (bys_one _)) (by kernel_rfl) (z := .int .u8 0) (by kernel_rfl) rfl (by decide) (by omega) (by unfold maxLen; omega) ?_
 intro ac37 wo38 ao33 cp34 En39 Hv40 hnz _
 clear hnz
 rw [bys_nil_append] at Hv40
 have ehz35 : 0 + (List.length b) = List.length b := (by first | (simp; done) | (simp; omega) | omega)
 rw [ehz35] at En39
 refine d_e [0,1,2,3,8,10,11] [] En39 fun ac41 En42 => ?_
 refine then_normal ?_
 refine wp_seq ?_
 refine region_from ?_
 refine d_k [0,1,2,3,8,10,11,31,32] [] 2 En42 fun ac43 En44 => ?_
 refine f_o ?_
 refine c_l [0,1] (M := [.box sb12 [.map (some mb13)] 52, .map mb13 (kvs FV.v [])]) En44 Hv40 (fun hM45 => put_bad _ sb12 mb13 [] [111, 110, 101] (by first | assumption | omega | decide) ao33 cp34 b (bys_in Hv40.heap (k := 2) rfl [0, 1] (by kernel_rfl) rfl (by first | omega | (simp; done) | (simp; omega))) (by rw [may_2 (by decide) hbl]; decide) hM45) ?_
 rintro _ wo46 ⟨rfl, he47⟩
 refine ⟨_, _, [.box sb12 [.map (some mb13)] 52, .map mb13 (kvs FV.v []), .vec ao33 cp34 1 (bys b) 5], rfl, he47, by kernel_rfl, fun ac49 En50 Hv51 => ?_⟩
 refine d_e [0,1,2,3,8,10,11,12] [] En50 fun ac52 En53 => ?_
 refine then_normal ?_
 refine wp_seq ?_
 refine d_s [0,1,2,3,8,10,11,12,36] [] En53 fun ac54 En55 => ?_
 refine c_d (((List.length b : Nat) : Int) > (65536 : Int)) En55 (fun hc56 => ?_) (fun hc56 => ?_)
 ·
  refine d_s [0,1,2,3,8,10,11,12] [(1, g_b (show (mayI [111, 110, 101] (List.length b) [] != (0 : Int)) = true from (by rw [may_2 (by decide) hbl]; decide)))] En55 fun ac57 En58 => ?_
  refine wp_ret ?_
  refine then_ret ?_
  refine d_ret1 (t := 8) (v := .bool true) En58 (by kernel_rfl) (by kernel_rfl) ?_
  exact ⟨rfl, Hv51.pick [] (by kernel_rfl) (by decide)⟩
 ·
  exfalso; omega

theorem own_short (a_b : Option Addr) (c_b : Nat) (b : List UInt8) (ot : List UInt8) (a_mo : Option Addr) (c_mo : Nat) (mo : List UInt8) (cut : UInt16) (w : World) (i_b : InB w [] a_b c_b b) (s_b : List.length b ≤ 140737488351232) (s_ot : (List.length ot ≤ 140737488351232)) (i_mo : InB w [] a_mo c_mo mo) (s_mo : List.length mo ≤ 140737488351232) (hbl : List.length b ≤ 65536) : Calls Try.prog 3 #[.slice a_b (List.length b) c_b, .string (bstr ot), .slice a_mo (List.length mo) c_mo, uv16 cut] w fun e w' => e = .returned (.bool true) ∧ Ev w [] w' [] := by
 have hbs := i_b.small
 have hms := i_mo.small
 refine d_0 [(0, .slice a_b (List.length b) c_b), (1, .string (bstr ot)), (2, .slice a_mo (List.length mo) c_mo), (3, uv16 cut)] 114 Go.Proofs.Try.func3 Go.Proofs.Try.ntmps3 (Heap.nil _) fun act0 En0 Hv0 => ?_
 refine d_s [0,1,2,3,8] [] En0 fun ac1 En2 => ?_
 refine wp_seq ?_
 refine region_from ?_
 refine f_o ?_
 refine c_p En2 Hv0 (head_ok _) fun ac7 wo4 En8 Hv9 => ?_
 refine d_e [0,1,2,3,8,9] [] En8 fun ac10 En11 => ?_
 refine then_normal ?_
 refine wp_seq ?_
 refine region_from ?_
 refine f_o ?_
 refine c_0 En11 Hv9 (new_go _) ?_
 rintro _ wo15 ⟨sb12, mb13, rfl, he16⟩
 refine ⟨_, _, _, rfl, he16, rfl, fun ac18 En19 Hv20 => ?_⟩
 refine d_e [0,1,2,3,8,9,10] [] En19 fun ac21 En22 => ?_
 refine then_normal ?_
 refine wp_seq ?_
 refine d_s [0,1,2,3,8,10,27] [] En22 fun ac23 En24 => ?_
 refine c_f En24 ?_
 refine wp_skip ?_
 refine then_normal ?_
 refine wp_seq ?_
 refine region_from ?_
 refine f_o ?_
 refine op_lit (d := some 28) (t := 22) (T := 5) (m := 0) (parts := #[]) (xs := bys []) (sz := 1) En24 (by kernel_rfl) (by kernel_rfl) rfl (by decide) Hv20 ?_
 intro ac26 wo27 bk25 En28 Hv29
 refine d_k [0,1,2,3,8,10,28,29] [] 2 En28 fun ac30 En31 => ?_
 refine f_o ?_
 have hsm32 := i_b.small
 refine op_append (d := some 30) (t := 22) (tx := 22) (ty := 22) (k := 2) (p := 0) (m := List.length b) (x := .slice a_b (List.length b) c_b) (bytes := 1) En31 (by kernel_rfl) Hv29 rfl rfl (Reads.src (size := 1) (tx := 22) (e' := 5) (by kernel_rfl) (i_b.ev Hv29).reads (bys_len _) i_b.nz (bys_one _)) (by kernel_rfl) (z := .int .u8 0) (by kernel_rfl) rfl (by decide) (by omega) (by unfold maxLen; omega) ?_
 intro ac37 wo38 ao33 cp34 En39 Hv40 hnz _
 clear hnz
 rw [bys_nil_append] at Hv40
 have ehz35 : 0 + (List.length b) = List.length b := (by first | (simp; done) | (simp; omega) | omega)
 rw [ehz35] at En39
 refine d_e [0,1,2,3,8,10,11] [] En39 fun ac41 En42 => ?_
 refine then_normal ?_
 refine wp_seq ?_
 refine region_from ?_
 refine d_k [0,1,2,3,8,10,11,31,32] [] 2 En42 fun ac43 En44 => ?_
 refine f_o ?_
 refine c_l [0,1] (M := [.box sb12 [.map (some mb13)] 52, .map mb13 (kvs FV.v [])]) En44 Hv40 (fun hM47 => put_ok _ sb12 mb13 [] [111, 110, 101] (by first | assumption | omega | decide) ao33 cp34 b (bys_in Hv40.heap (k := 2) rfl [0, 1] (by kernel_rfl) rfl (by first | omega | (simp; done) | (simp; omega))) (may_4 (by decide) (by omega) (by decide)) hM47) ?_
 rintro _ wo48 ⟨ao45, co46, rfl, he49⟩
 refine ⟨_, _, [.box sb12 [.map (some mb13)] 52, .map mb13 (kvs FV.v (kvPut [111, 110, 101] ⟨ao45, List.length b, co46, none, 0, 0, false, 0⟩ [])), .vec ao45 co46 1 (bys b) 5, .vec ao33 cp34 1 (bys b) 5], rfl, he49, by kernel_rfl, fun ac51 En52 Hv53 => ?_⟩
 refine d_e [0,1,2,3,8,10,11,12] [] En52 fun ac54 En55 => ?_
 refine then_normal ?_
 refine wp_seq ?_
 refine d_s [0,1,2,3,8,10,11,12,36] [] En55 fun ac56 En57 => ?_
 refine c_d (((List.length b : Nat) : Int) > (65536 : Int)) En57 (fun hc58 => ?_) (fun hc58 => ?_)
 ·
  exfalso; omega
 ·
  refine wp_skip ?_
  refine then_normal ?_
  refine wp_seq ?_
  refine d_s [0,1,2,3,8,10,11,12,13] [] En57 fun ac59 En60 => ?_
  refine wp_block ?_
  refine loop_m (fun ms61 ac wo => ∃ (i1 : Nat) (lx : List UInt8), ms61 = (List.length b - i1 : Nat) ∧ Env ac 114 [(0, .slice a_b (List.length b) c_b), (1, .string (bstr ot)), (2, .slice a_mo (List.length mo) c_mo), (3, uv16 cut), (8, .bool false), (10, pt sb12), (11, .slice ao33 (List.length b) cp34), (12, .int .i64 0), (13, ni i1)] ∧ Ev w [] wo [.vec ao33 cp34 1 (bys lx) 5, .box sb12 [.map (some mb13)] 52, .map mb13 (kvs FV.v (kvPut [111, 110, 101] ⟨ao45, List.length b, co46, none, 0, 0, false, 0⟩ [])), .vec ao45 co46 1 (bys b) 5] ∧ (List.length lx = List.length b)) ⟨_, 0, b, rfl, En60.sub (by kernel_rfl), Hv53.pick [3, 0, 1, 2] (by kernel_rfl) (by decide), rfl⟩ ?_
  rintro mm67 ac63 wo64 ⟨i1, lx, rfl, En65, Hv66, hllx⟩
  refine wp_seq ?_
  refine d_s [0,1,2,3,8,10,11,12,13,42] [] En65 fun ac68 En69 => ?_
  refine c_d (((i1 : Nat) : Int) < ((List.length b : Nat) : Int)) En69 (fun hc70 => ?_) (fun hc70 => ?_)
  ·
   refine wp_skip ?_
   refine then_normal ?_
   refine wp_seq ?_
   refine wp_block ?_
   have hb73 : i1 < List.length b := (by omega)
   obtain ⟨adr71, had72⟩ := some_of (fun e => by have h := (bys_vnz Hv66.heap (k := 0) rfl) e; first | omega | (rw [List.length_take] at h; omega) | (simp at h; omega)) hb73
   refine region_from ?_
   refine d_k [0,1,2,3,8,10,11,12,13,45,46] [] 2 En69 fun ac74 En75 => ?_
   refine f_o ?_
   refine q_v (x := Instr.indexAt 22 (.slice ao33 (List.length b) cp34) (ni i1)) (v := .pointer (some (Addr.add adr71 i1))) En75 (Go.Dbr.run_indexsl (e := 5) (sz := 1) (j := i1) (jo := i1) had72 (by kernel_rfl) (by kernel_rfl) (by omega) hb73 (Nat.mul_one _) _) fun ac76 En77 => ?_
   refine f_o ?_
   have hb78 : i1 < List.length lx := by omega
   refine op_loadel (d := some 48) (t := 5) (ad := adr71) (ao := ao33) (xs := bys lx) (j := i1) (v := .int .u8 ((UInt8.toNat (List.getD lx i1 0) : Nat) : Int)) En77 (by kernel_rfl) (Hv66.heap.reads (k := 0) rfl) had72 (bys_getD hb78) (by kernel_rfl) ?_
   intro ac79 En80
   have hb83 : i1 < List.length b := (by omega)
   obtain ⟨adr81, had82⟩ := some_of (fun e => by have h := (bys_vnz Hv66.heap (k := 0) rfl) e; first | omega | (rw [List.length_take] at h; omega) | (simp at h; omega)) hb83
   refine d_k [0,1,2,3,8,10,11,12,13,45,46,49] [(4, g_i .u8 (Go.Dbr.u8_add (x := List.getD lx i1 0) (y := (1 : UInt8)) rfl rfl))] 5 En80 fun ac84 En85 => ?_
   refine f_o ?_
   refine q_v (x := Instr.indexAt 22 (.slice ao33 (List.length b) cp34) (ni i1)) (v := .pointer (some (Addr.add adr81 i1))) En85 (Go.Dbr.run_indexsl (e := 5) (sz := 1) (j := i1) (jo := i1) had82 (by kernel_rfl) (by kernel_rfl) (by omega) hb83 (Nat.mul_one _) _) fun ac86 En87 => ?_
   refine f_o ?_
   refine op_storeel (d := none) (t := 5) (ad := adr81) (ao := ao33) (k := 0) (cap := cp34) (sz := 1) (j := i1) (xs := bys lx) (v := bv ((List.getD lx i1 0) + (1 : UInt8))) En87 (by kernel_rfl) Hv66 rfl had82 (by rw [bys_length]; first | omega | (simp; done) | (simp; omega)) (by kernel_rfl) rfl ?_
   intro ac88 wo89  En90 Hv91
   rw [bys_set] at Hv91
   refine f_e ?_
   refine block_normal ?_
   refine then_normal ?_
   refine d_r [0,1,2,3,8,10,11,12,13] [(1, g_n (w_a i1 1))] En90 fun ac92 En93 => ?_
   refine then_normal ?_
   refine ⟨_, ⟨i1 + 1, (List.set lx i1 ((List.getD lx i1 0) + (1 : UInt8))), rfl, En93.sub (by kernel_rfl), Hv91.pick [0, 1, 2, 3] (by kernel_rfl) (by decide), (List.length_set.trans hllx)⟩, ?_⟩
   omega
  ·
   refine wp_exit ?_
   refine then_exit ?_
   refine then_exit ?_
   refine block_exit ?_
   refine then_normal ?_
   refine wp_seq ?_
   refine d_s [0,1,2,3,8,10,11,12,13,52] [(1, g_v (show (.bool (!(ByteArray.toList (bstr ot) == ByteArray.toList (bstr [111, 110, 101]))) : Value) = .bool (!(ot == [111, 110, 101])) by rw [Go.Dbr.bstr_eq ot [111, 110, 101]] <;> rfl))] En69 fun ac94 En95 => ?_
   refine cond_at En95 (t := !(ot == [111, 110, 101])) (by kernel_rfl) (fun hc96 => ?_) (fun hc96 => ?_)
   ·
    replace hc96 : ot ≠ [111, 110, 101] := by simpa using hc96
    refine wp_seq ?_
    refine region_from ?_
    refine d_k [0,1,3,8,10,11,12,13,53,54,55] [] 3 En95 fun ac97 En98 => ?_
    refine f_o ?_
    refine c_l [1,2] (M := [.box sb12 [.map (some mb13)] 52, .map mb13 (kvs FV.v (kvPut [111, 110, 101] ⟨ao45, List.length b, co46, none, 0, 0, false, 0⟩ []))]) En98 Hv66 (fun hM102 => put_any _ sb12 mb13 (kvPut [111, 110, 101] ⟨ao45, List.length b, co46, none, 0, 0, false, 0⟩ []) ot (by first | assumption | omega | decide) a_mo c_mo mo ((i_mo.ev Hv66).pick [1, 2] (by kernel_rfl)) hM102) ?_
    rintro _ wo103 ⟨r99, m100, rfl, he104, hq101⟩
    refine ⟨_, _, [.box sb12 [.map (some mb13)] 52, .map mb13 (kvs FV.v m100), .vec ao33 cp34 1 (bys lx) 5, .vec ao45 co46 1 (bys b) 5], rfl, he104, by kernel_rfl, fun ac106 En107 Hv108 => ?_⟩
    refine f_e ?_
    refine then_normal ?_
    refine region_from ?_
    refine d_k [0,1,8,10,11,12,13,57,58,59,61,64] [(4, g_i .i64 (Go.Dbr.u16_to_i64 (x := cut) rfl)), (7, g_n (w_a (List.length b) 1))] 8 En107 fun ac109 En110 => ?_
    refine f_o ?_
    refine q_v En110 (Go.Dbr.run_rem_nat (UInt16.toNat cut) ((List.length b) + 1) (by omega) _) fun ac111 En112 => ?_
    refine f_o ?_
    refine c_l [0,1] (M := [.box sb12 [.map (some mb13)] 52, .map mb13 (kvs FV.v m100)]) En112 Hv108 (fun hM116 => tear_any _ sb12 mb13 m100 ot (by first | assumption | omega | decide) a_b c_b b ((i_b.ev Hv108).pick [0, 1] (by kernel_rfl)) ((UInt16.toNat cut) % ((List.length b) + 1)) (Nat.le_of_lt_succ (Nat.mod_lt _ (Nat.succ_pos _))) hM116) ?_
    rintro _ wo117 ⟨r113, m114, rfl, he118, hq115⟩
    refine ⟨_, _, [.box sb12 [.map (some mb13)] 52, .map mb13 (kvs FV.v m114), .vec ao33 cp34 1 (bys lx) 5, .vec ao45 co46 1 (bys b) 5], rfl, he118, by kernel_rfl, fun ac120 En121 Hv122 => ?_⟩
    refine f_e ?_
    refine then_normal ?_
    refine wp_seq ?_
    refine region_from ?_
    refine d_k [0,1,8,10,11,12,13,68] [] 1 En121 fun ac123 En124 => ?_
    refine f_o ?_
    refine c_l [0,1] (M := [.box sb12 [.map (some mb13)] 52, .map mb13 (kvs FV.v m114)]) En124 Hv122 (fun hM127 => read_old _ sb12 mb13 m114 [111, 110, 101] (by first | assumption | omega | decide) (by rw [hq115 [111, 110, 101] (fun e => absurd e.symm (by assumption))]; exact (by rw [hq101 [111, 110, 101] (fun e => absurd e.symm (by assumption))]; exact some_self)) b ao45 co46 false (old_at (hq115 [111, 110, 101] (fun e => absurd e.symm (by assumption))) (old_at (hq101 [111, 110, 101] (fun e => absurd e.symm (by assumption))) old_self)) (bys_in Hv122.heap (k := 3) rfl [0, 1] (by kernel_rfl) rfl (by first | omega | (simp; done) | (simp; omega))) (by first | omega | (simp; done) | (simp; omega)) hM127) ?_
    rintro _ wo128 ⟨ao125, co126, rfl, he129⟩
    refine ⟨_, _, [.box sb12 [.map (some mb13)] 52, .map mb13 (kvs FV.v m114), .vec ao125 co126 1 (bys b) 5, .vec ao33 cp34 1 (bys lx) 5, .vec ao45 co46 1 (bys b) 5], rfl, he129, by kernel_rfl, fun ac131 En132 Hv133 => ?_⟩
    refine d_e [0,1,8,10,11,12,13,14,15] [] En132 fun ac134 En135 => ?_
    refine then_normal ?_
    refine wp_seq ?_
    refine region_from ?_
    refine d_k [0,1,8,10,11,12,13,14,15,72] [] 1 En135 fun ac136 En137 => ?_
    refine f_o ?_
    refine op_str (d := some 73) (src := 22) (dst := 9) (e := 5) (ao := ao125) (cap := co126) (p := List.length b) (bs := b) En137 (by kernel_rfl) rfl (by kernel_rfl) (by kernel_rfl) (by kernel_rfl) (Hv133.heap.reads (k := 2) rfl) (bys_vnz Hv133.heap (k := 2) rfl) ?_
    intro ac138 En139
    refine d_k [0,1,8,10,11,12,13,14,15,73,74] [] 3 En139 fun ac140 En141 => ?_
    refine f_o ?_
    refine op_str (d := some 75) (src := 22) (dst := 9) (e := 5) (ao := a_b) (cap := c_b) (p := List.length b) (bs := b) En141 (by kernel_rfl) rfl (by kernel_rfl) (by kernel_rfl) (by kernel_rfl) (i_b.ev Hv133).reads i_b.nz ?_
    intro ac142 En143
    refine d_e [0,1,8,10,11,12,13,14,15,16] [(4, g_v (show (.bool (ByteArray.toList (bstr b) == ByteArray.toList (bstr b)) : Value) = .bool true by rw [Go.Dbr.bstr_eq b b, show (b == b) = true from (beq_self_eq_true _)] <;> rfl))] En143 fun ac144 En145 => ?_
    refine then_normal ?_
    refine wp_seq ?_
    refine d_s [0,1,8,10,11,12,13,14,15,16,17] [] En145 fun ac146 En147 => ?_
    refine wp_block ?_
    refine loop_m (fun ms148 ac wo => ∃ (i2 : Nat) (ly : List UInt8), ms148 = (List.length b - i2 : Nat) ∧ Env ac 114 [(0, .slice a_b (List.length b) c_b), (1, .string (bstr ot)), (8, .bool false), (10, pt sb12), (11, .slice ao33 (List.length b) cp34), (12, .int .i64 0), (13, ni i1), (14, .slice ao125 (List.length b) co126), (15, .int .i64 0), (16, .bool true), (17, ni i2)] ∧ Ev w [] wo [.vec ao125 co126 1 (bys ly) 5, .box sb12 [.map (some mb13)] 52, .map mb13 (kvs FV.v m114), .vec ao33 cp34 1 (bys lx) 5, .vec ao45 co46 1 (bys b) 5] ∧ (List.length ly = List.length b)) ⟨_, 0, b, rfl, En147.sub (by kernel_rfl), Hv133.pick [2, 0, 1, 3, 4] (by kernel_rfl) (by decide), rfl⟩ ?_
    rintro mm154 ac150 wo151 ⟨i2, ly, rfl, En152, Hv153, hlly⟩
    refine wp_seq ?_
    refine d_s [0,1,8,10,11,12,13,14,15,16,17,80] [] En152 fun ac155 En156 => ?_
    refine c_d (((i2 : Nat) : Int) < ((List.length b : Nat) : Int)) En156 (fun hc157 => ?_) (fun hc157 => ?_)
    ·
     refine wp_skip ?_
     refine then_normal ?_
     refine wp_seq ?_
     refine wp_block ?_
     have hb160 : i2 < List.length b := (by omega)
     obtain ⟨adr158, had159⟩ := some_of (fun e => by have h := (bys_vnz Hv153.heap (k := 0) rfl) e; first | omega | (rw [List.length_take] at h; omega) | (simp at h; omega)) hb160
     refine region_from ?_
     refine d_k [0,1,8,10,11,12,13,14,15,16,17,83,84] [] 2 En156 fun ac161 En162 => ?_
     refine f_o ?_
     refine q_v (x := Instr.indexAt 22 (.slice ao125 (List.length b) co126) (ni i2)) (v := .pointer (some (Addr.add adr158 i2))) En162 (Go.Dbr.run_indexsl (e := 5) (sz := 1) (j := i2) (jo := i2) had159 (by kernel_rfl) (by kernel_rfl) (by omega) hb160 (Nat.mul_one _) _) fun ac163 En164 => ?_
     refine f_o ?_
     have hb165 : i2 < List.length ly := by omega
     refine op_loadel (d := some 86) (t := 5) (ad := adr158) (ao := ao125) (xs := bys ly) (j := i2) (v := .int .u8 ((UInt8.toNat (List.getD ly i2 0) : Nat) : Int)) En164 (by kernel_rfl) (Hv153.heap.reads (k := 0) rfl) had159 (bys_getD hb165) (by kernel_rfl) ?_
     intro ac166 En167
     have hb170 : i2 < List.length b := (by omega)
     obtain ⟨adr168, had169⟩ := some_of (fun e => by have h := (bys_vnz Hv153.heap (k := 0) rfl) e; first | omega | (rw [List.length_take] at h; omega) | (simp at h; omega)) hb170
     refine d_k [0,1,8,10,11,12,13,14,15,16,17,83,84,87] [(4, g_i .u8 (Go.Dbr.u8_add (x := List.getD ly i2 0) (y := (1 : UInt8)) rfl rfl))] 5 En167 fun ac171 En172 => ?_
     refine f_o ?_
     refine q_v (x := Instr.indexAt 22 (.slice ao125 (List.length b) co126) (ni i2)) (v := .pointer (some (Addr.add adr168 i2))) En172 (Go.Dbr.run_indexsl (e := 5) (sz := 1) (j := i2) (jo := i2) had169 (by kernel_rfl) (by kernel_rfl) (by omega) hb170 (Nat.mul_one _) _) fun ac173 En174 => ?_
     refine f_o ?_
     refine op_storeel (d := none) (t := 5) (ad := adr168) (ao := ao125) (k := 0) (cap := co126) (sz := 1) (j := i2) (xs := bys ly) (v := bv ((List.getD ly i2 0) + (1 : UInt8))) En174 (by kernel_rfl) Hv153 rfl had169 (by rw [bys_length]; first | omega | (simp; done) | (simp; omega)) (by kernel_rfl) rfl ?_
     intro ac175 wo176  En177 Hv178
     rw [bys_set] at Hv178
     refine f_e ?_
     refine block_normal ?_
     refine then_normal ?_
     refine d_r [0,1,8,10,11,12,13,14,15,16,17] [(1, g_n (w_a i2 1))] En177 fun ac179 En180 => ?_
     refine then_normal ?_
     refine ⟨_, ⟨i2 + 1, (List.set ly i2 ((List.getD ly i2 0) + (1 : UInt8))), rfl, En180.sub (by kernel_rfl), Hv178.pick [0, 1, 2, 3, 4] (by kernel_rfl) (by decide), (List.length_set.trans hlly)⟩, ?_⟩
     omega
    ·
     refine wp_exit ?_
     refine then_exit ?_
     refine then_exit ?_
     refine block_exit ?_
     refine then_normal ?_
     refine wp_seq ?_
     refine region_from ?_
     refine d_k [0,1,8,10,11,12,13,14,15,16,17,90] [] 1 En156 fun ac181 En182 => ?_
     refine f_o ?_
     refine c_l [1,2] (M := [.box sb12 [.map (some mb13)] 52, .map mb13 (kvs FV.v m114)]) En182 Hv153 (fun hM185 => read_old _ sb12 mb13 m114 [111, 110, 101] (by first | assumption | omega | decide) (by rw [hq115 [111, 110, 101] (fun e => absurd e.symm (by assumption))]; exact (by rw [hq101 [111, 110, 101] (fun e => absurd e.symm (by assumption))]; exact some_self)) b ao45 co46 false (old_at (hq115 [111, 110, 101] (fun e => absurd e.symm (by assumption))) (old_at (hq101 [111, 110, 101] (fun e => absurd e.symm (by assumption))) old_self)) (bys_in Hv153.heap (k := 4) rfl [1, 2] (by kernel_rfl) rfl (by first | omega | (simp; done) | (simp; omega))) (by first | omega | (simp; done) | (simp; omega)) hM185) ?_
     rintro _ wo186 ⟨ao183, co184, rfl, he187⟩
     refine ⟨_, _, [.box sb12 [.map (some mb13)] 52, .map mb13 (kvs FV.v m114), .vec ao183 co184 1 (bys b) 5, .vec ao125 co126 1 (bys ly) 5, .vec ao33 cp34 1 (bys lx) 5, .vec ao45 co46 1 (bys b) 5], rfl, he187, by kernel_rfl, fun ac189 En190 Hv191 => ?_⟩
     refine d_e [0,1,8,10,11,12,13,14,15,16,17,18,19] [] En190 fun ac192 En193 => ?_
     refine then_normal ?_
     refine wp_seq ?_
     refine region_from ?_
     refine d_k [0,1,8,10,11,12,13,14,17,107,108] [] 15 En193 fun ac194 En195 => ?_
     refine f_o ?_
     refine op_str (d := some 109) (src := 22) (dst := 9) (e := 5) (ao := ao183) (cap := co184) (p := List.length b) (bs := b) En195 (by kernel_rfl) rfl (by kernel_rfl) (by kernel_rfl) (by kernel_rfl) (Hv191.heap.reads (k := 2) rfl) (bys_vnz Hv191.heap (k := 2) rfl) ?_
     intro ac196 En197
     refine d_k [0,1,8,10,11,12,13,14,17,107,109,110] [] 17 En197 fun ac198 En199 => ?_
     refine f_o ?_
     refine op_str (d := some 111) (src := 22) (dst := 9) (e := 5) (ao := a_b) (cap := c_b) (p := List.length b) (bs := b) En199 (by kernel_rfl) rfl (by kernel_rfl) (by kernel_rfl) (by kernel_rfl) (i_b.ev Hv191).reads i_b.nz ?_
     intro ac200 En201
     refine d_e [0,1,8,10,11,12,13,14,17] [(18, g_v (show (.bool (ByteArray.toList (bstr b) == ByteArray.toList (bstr b)) : Value) = .bool true by rw [Go.Dbr.bstr_eq b b, show (b == b) = true from (beq_self_eq_true _)] <;> rfl))] En201 fun ac202 En203 => ?_
     refine then_normal ?_
     refine wp_ret ?_
     refine d_ret1 (t := 8) (v := .bool true) En203 (by kernel_rfl) (by kernel_rfl) ?_
     exact ⟨rfl, Hv191.pick [] (by kernel_rfl) (by decide)⟩
   ·
    replace hc96 : ¬ (ot ≠ [111, 110, 101]) := by simpa using hc96
    refine wp_skip ?_
    refine then_normal ?_
    refine wp_seq ?_
    refine region_from ?_
    refine d_k [0,1,2,3,8,10,11,12,13,68] [] 1 En95 fun ac204 En205 => ?_
    refine f_o ?_
    refine c_l [1,2] (M := [.box sb12 [.map (some mb13)] 52, .map mb13 (kvs FV.v (kvPut [111, 110, 101] ⟨ao45, List.length b, co46, none, 0, 0, false, 0⟩ []))]) En205 Hv66 (fun hM208 => read_old _ sb12 mb13 (kvPut [111, 110, 101] ⟨ao45, List.length b, co46, none, 0, 0, false, 0⟩ []) [111, 110, 101] (by first | assumption | omega | decide) some_self b ao45 co46 false old_self (bys_in Hv66.heap (k := 3) rfl [1, 2] (by kernel_rfl) rfl (by first | omega | (simp; done) | (simp; omega))) (by first | omega | (simp; done) | (simp; omega)) hM208) ?_
    rintro _ wo209 ⟨ao206, co207, rfl, he210⟩
    refine ⟨_, _, [.box sb12 [.map (some mb13)] 52, .map mb13 (kvs FV.v (kvPut [111, 110, 101] ⟨ao45, List.length b, co46, none, 0, 0, false, 0⟩ [])), .vec ao206 co207 1 (bys b) 5, .vec ao33 cp34 1 (bys lx) 5, .vec ao45 co46 1 (bys b) 5], rfl, he210, by kernel_rfl, fun ac212 En213 Hv214 => ?_⟩
    refine d_e [0,1,2,3,8,10,11,12,13,14,15] [] En213 fun ac215 En216 => ?_
    refine then_normal ?_
    refine wp_seq ?_
    refine region_from ?_
    refine d_k [0,1,2,3,8,10,11,12,13,14,15,72] [] 1 En216 fun ac217 En218 => ?_
    refine f_o ?_
    refine op_str (d := some 73) (src := 22) (dst := 9) (e := 5) (ao := ao206) (cap := co207) (p := List.length b) (bs := b) En218 (by kernel_rfl) rfl (by kernel_rfl) (by kernel_rfl) (by kernel_rfl) (Hv214.heap.reads (k := 2) rfl) (bys_vnz Hv214.heap (k := 2) rfl) ?_
    intro ac219 En220
    refine d_k [0,1,2,3,8,10,11,12,13,14,15,73,74] [] 3 En220 fun ac221 En222 => ?_
    refine f_o ?_
    refine op_str (d := some 75) (src := 22) (dst := 9) (e := 5) (ao := a_b) (cap := c_b) (p := List.length b) (bs := b) En222 (by kernel_rfl) rfl (by kernel_rfl) (by kernel_rfl) (by kernel_rfl) (i_b.ev Hv214).reads i_b.nz ?_
    intro ac223 En224
    refine d_e [0,1,2,3,8,10,11,12,13,14,15,16] [(4, g_v (show (.bool (ByteArray.toList (bstr b) == ByteArray.toList (bstr b)) : Value) = .bool true by rw [Go.Dbr.bstr_eq b b, show (b == b) = true from (beq_self_eq_true _)] <;> rfl))] En224 fun ac225 En226 => ?_
    refine then_normal ?_
    refine wp_seq ?_
    refine d_s [0,1,2,3,8,10,11,12,13,14,15,16,17] [] En226 fun ac227 En228 => ?_
    refine wp_block ?_
    refine loop_m (fun ms229 ac wo => ∃ (i2 : Nat) (ly : List UInt8), ms229 = (List.length b - i2 : Nat) ∧ Env ac 114 [(0, .slice a_b (List.length b) c_b), (1, .string (bstr ot)), (2, .slice a_mo (List.length mo) c_mo), (3, uv16 cut), (8, .bool false), (10, pt sb12), (11, .slice ao33 (List.length b) cp34), (12, .int .i64 0), (13, ni i1), (14, .slice ao206 (List.length b) co207), (15, .int .i64 0), (16, .bool true), (17, ni i2)] ∧ Ev w [] wo [.vec ao206 co207 1 (bys ly) 5, .box sb12 [.map (some mb13)] 52, .map mb13 (kvs FV.v (kvPut [111, 110, 101] ⟨ao45, List.length b, co46, none, 0, 0, false, 0⟩ [])), .vec ao33 cp34 1 (bys lx) 5, .vec ao45 co46 1 (bys b) 5] ∧ (List.length ly = List.length b)) ⟨_, 0, b, rfl, En228.sub (by kernel_rfl), Hv214.pick [2, 0, 1, 3, 4] (by kernel_rfl) (by decide), rfl⟩ ?_
    rintro mm235 ac231 wo232 ⟨i2, ly, rfl, En233, Hv234, hlly⟩
    refine wp_seq ?_
    refine d_s [0,1,2,3,8,10,11,12,13,14,15,16,17,80] [] En233 fun ac236 En237 => ?_
    refine c_d (((i2 : Nat) : Int) < ((List.length b : Nat) : Int)) En237 (fun hc238 => ?_) (fun hc238 => ?_)
    ·
     refine wp_skip ?_
     refine then_normal ?_
     refine wp_seq ?_
     refine wp_block ?_
     have hb241 : i2 < List.length b := (by omega)
     obtain ⟨adr239, had240⟩ := some_of (fun e => by have h := (bys_vnz Hv234.heap (k := 0) rfl) e; first | omega | (rw [List.length_take] at h; omega) | (simp at h; omega)) hb241
     refine region_from ?_
     refine d_k [0,1,2,3,8,10,11,12,13,14,15,16,17,83,84] [] 2 En237 fun ac242 En243 => ?_
     refine f_o ?_
     refine q_v (x := Instr.indexAt 22 (.slice ao206 (List.length b) co207) (ni i2)) (v := .pointer (some (Addr.add adr239 i2))) En243 (Go.Dbr.run_indexsl (e := 5) (sz := 1) (j := i2) (jo := i2) had240 (by kernel_rfl) (by kernel_rfl) (by omega) hb241 (Nat.mul_one _) _) fun ac244 En245 => ?_
     refine f_o ?_
     have hb246 : i2 < List.length ly := by omega
     refine op_loadel (d := some 86) (t := 5) (ad := adr239) (ao := ao206) (xs := bys ly) (j := i2) (v := .int .u8 ((UInt8.toNat (List.getD ly i2 0) : Nat) : Int)) En245 (by kernel_rfl) (Hv234.heap.reads (k := 0) rfl) had240 (bys_getD hb246) (by kernel_rfl) ?_
     intro ac247 En248
     have hb251 : i2 < List.length b := (by omega)
     obtain ⟨adr249, had250⟩ := some_of (fun e => by have h := (bys_vnz Hv234.heap (k := 0) rfl) e; first | omega | (rw [List.length_take] at h; omega) | (simp at h; omega)) hb251
     refine d_k [0,1,2,3,8,10,11,12,13,14,15,16,17,83,84,87] [(4, g_i .u8 (Go.Dbr.u8_add (x := List.getD ly i2 0) (y := (1 : UInt8)) rfl rfl))] 5 En248 fun ac252 En253 => ?_
     refine f_o ?_
     refine q_v (x := Instr.indexAt 22 (.slice ao206 (List.length b) co207) (ni i2)) (v := .pointer (some (Addr.add adr249 i2))) En253 (Go.Dbr.run_indexsl (e := 5) (sz := 1) (j := i2) (jo := i2) had250 (by kernel_rfl) (by kernel_rfl) (by omega) hb251 (Nat.mul_one _) _) fun ac254 En255 => ?_
     refine f_o ?_
     refine op_storeel (d := none) (t := 5) (ad := adr249) (ao := ao206) (k := 0) (cap := co207) (sz := 1) (j := i2) (xs := bys ly) (v := bv ((List.getD ly i2 0) + (1 : UInt8))) En255 (by kernel_rfl) Hv234 rfl had250 (by rw [bys_length]; first | omega | (simp; done) | (simp; omega)) (by kernel_rfl) rfl ?_
     intro ac256 wo257  En258 Hv259
     rw [bys_set] at Hv259
     refine f_e ?_
     refine block_normal ?_
     refine then_normal ?_
     refine d_r [0,1,2,3,8,10,11,12,13,14,15,16,17] [(1, g_n (w_a i2 1))] En258 fun ac260 En261 => ?_
     refine then_normal ?_
     refine ⟨_, ⟨i2 + 1, (List.set ly i2 ((List.getD ly i2 0) + (1 : UInt8))), rfl, En261.sub (by kernel_rfl), Hv259.pick [0, 1, 2, 3, 4] (by kernel_rfl) (by decide), (List.length_set.trans hlly)⟩, ?_⟩
     omega
    ·
     refine wp_exit ?_
     refine then_exit ?_
     refine then_exit ?_
     refine block_exit ?_
     refine then_normal ?_
     refine wp_seq ?_
     refine region_from ?_
     refine d_k [0,1,2,3,8,10,11,12,13,14,15,16,17,90] [] 1 En237 fun ac262 En263 => ?_
     refine f_o ?_
     refine c_l [1,2] (M := [.box sb12 [.map (some mb13)] 52, .map mb13 (kvs FV.v (kvPut [111, 110, 101] ⟨ao45, List.length b, co46, none, 0, 0, false, 0⟩ []))]) En263 Hv234 (fun hM266 => read_old _ sb12 mb13 (kvPut [111, 110, 101] ⟨ao45, List.length b, co46, none, 0, 0, false, 0⟩ []) [111, 110, 101] (by first | assumption | omega | decide) some_self b ao45 co46 false old_self (bys_in Hv234.heap (k := 4) rfl [1, 2] (by kernel_rfl) rfl (by first | omega | (simp; done) | (simp; omega))) (by first | omega | (simp; done) | (simp; omega)) hM266) ?_
     rintro _ wo267 ⟨ao264, co265, rfl, he268⟩
     refine ⟨_, _, [.box sb12 [.map (some mb13)] 52, .map mb13 (kvs FV.v (kvPut [111, 110, 101] ⟨ao45, List.length b, co46, none, 0, 0, false, 0⟩ [])), .vec ao264 co265 1 (bys b) 5, .vec ao206 co207 1 (bys ly) 5, .vec ao33 cp34 1 (bys lx) 5, .vec ao45 co46 1 (bys b) 5], rfl, he268, by kernel_rfl, fun ac270 En271 Hv272 => ?_⟩
     refine d_e [0,1,2,3,8,10,11,12,13,14,15,16,17,18,19] [] En271 fun ac273 En274 => ?_
     refine then_normal ?_
     refine wp_seq ?_
     refine region_from ?_
     refine d_k [0,1,2,3,8,10,11,12,13,14,17,107,108] [] 15 En274 fun ac275 En276 => ?_
     refine f_o ?_
     refine op_str (d := some 109) (src := 22) (dst := 9) (e := 5) (ao := ao264) (cap := co265) (p := List.length b) (bs := b) En276 (by kernel_rfl) rfl (by kernel_rfl) (by kernel_rfl) (by kernel_rfl) (Hv272.heap.reads (k := 2) rfl) (bys_vnz Hv272.heap (k := 2) rfl) ?_
     intro ac277 En278
     refine d_k [0,1,2,3,8,10,11,12,13,14,17,107,109,110] [] 17 En278 fun ac279 En280 => ?_
     refine f_o ?_
     refine op_str (d := some 111) (src := 22) (dst := 9) (e := 5) (ao := a_b) (cap := c_b) (p := List.length b) (bs := b) En280 (by kernel_rfl) rfl (by kernel_rfl) (by kernel_rfl) (by kernel_rfl) (i_b.ev Hv272).reads i_b.nz ?_
     intro ac281 En282
     refine d_e [0,1,2,3,8,10,11,12,13,14,17] [(18, g_v (show (.bool (ByteArray.toList (bstr b) == ByteArray.toList (bstr b)) : Value) = .bool true by rw [Go.Dbr.bstr_eq b b, show (b == b) = true from (beq_self_eq_true _)] <;> rfl))] En282 fun ac283 En284 => ?_
     refine then_normal ?_
     refine wp_ret ?_
     refine d_ret1 (t := 8) (v := .bool true) En284 (by kernel_rfl) (by kernel_rfl) ?_
     exact ⟨rfl, Hv272.pick [] (by kernel_rfl) (by decide)⟩

theorem own_walk (a_b : Option Addr) (c_b : Nat) (b : List UInt8) (ot : List UInt8) (a_mo : Option Addr) (c_mo : Nat) (mo : List UInt8) (cut : UInt16) (w : World) (i_b : InB w [] a_b c_b b) (s_b : List.length b ≤ 140737488351232) (s_ot : (List.length ot ≤ 140737488351232)) (i_mo : InB w [] a_mo c_mo mo) (s_mo : List.length mo ≤ 140737488351232) : Calls Try.prog 3 #[.slice a_b (List.length b) c_b, .string (bstr ot), .slice a_mo (List.length mo) c_mo, uv16 cut] w fun e w' => e = .returned (.bool true) ∧ Ev w [] w' [] := by
  by_cases h : List.length b ≤ 65536
  · exact own_short a_b c_b b ot a_mo c_mo mo cut w i_b s_b s_ot i_mo s_mo h
  · exact own_long a_b c_b b ot a_mo c_mo mo cut w i_b s_b s_ot i_mo s_mo (by omega)

theorem may_not {nm : Bs} {n : Nat} (h : ¬ mayI nm n [] = 0) (h1 : nmL nm = true) : 65536 < n := by
  refine Decidable.byContradiction fun g => h (may_4 h1 g (by decide))
theorem may_not2 {nm : Bs} {n : Nat} {x : FV} (h : ¬ mayI nm n (kvPut nm x []) = 0) (h1 : nmL nm = true) : 65536 < n := by
  refine Decidable.byContradiction fun g => h (may_5 h1 g some_self)
theorem torn_want {o f : Bs} {k : Nat} (h : k < o.length) : rdL o f k = f.take k ++ o.drop k := by rw [rdL, Nat.min_eq_left (by omega)]
theorem torn_want2 {o f : Bs} {k : Nat} (h : ¬ k < o.length) : rdL o f k = f.take k := by rw [rdL, Nat.min_eq_right (by omega), List.drop_length, List.append_nil]
theorem not_t {b : Bool} (h : ¬ b = true) : (!b) = true := by simpa using h

theorem torn_a (nm : List UInt8) (a_ol : Option Addr) (c_ol : Nat) (ol : List UInt8) (a_fr : Option Addr) (c_fr : Nat) (fr : List UInt8) (nn : UInt16) (w : World) (s_nm : (List.length nm ≤ 140737488351232)) (i_ol : InB w [] a_ol c_ol ol) (s_ol : List.length ol ≤ 140737488351232) (i_fr : InB w [] a_fr c_fr fr) (s_fr : List.length fr ≤ 140737488351232) (h1 : ¬ mayI nm (List.length ol) [] = 0) : Calls Try.prog 4 #[.string (bstr nm), .slice a_ol (List.length ol) c_ol, .slice a_fr (List.length fr) c_fr, uv16 nn] w fun e w' => e = .returned (.bool true) ∧ Ev w [] w' [] := by
 have hos := i_ol.small
 have hfs := i_fr.small
 have hkm : UInt16.toNat nn % (List.length fr + 1) ≤ List.length fr := Nat.le_of_lt_succ (Nat.mod_lt _ (Nat.succ_pos _))
 refine d_0 [(0, .string (bstr nm)), (1, .slice a_ol (List.length ol) c_ol), (2, .slice a_fr (List.length fr) c_fr), (3, uv16 nn)] 123 Go.Proofs.Try.func4 Go.Proofs.Try.ntmps4 (Heap.nil _) fun act0 En0 Hv0 => ?_
 refine d_s [0,1,2,3,8] [] En0 fun ac1 En2 => ?_
 refine wp_seq ?_
 refine region_from ?_
 refine f_o ?_
 refine c_p En2 Hv0 (head_ok _) fun ac7 wo4 En8 Hv9 => ?_
 refine d_e [0,1,2,3,8,9] [] En8 fun ac10 En11 => ?_
 refine then_normal ?_
 refine wp_seq ?_
 refine region_from ?_
 refine f_o ?_
 refine c_0 En11 Hv9 (new_go _) ?_
 rintro _ wo15 ⟨sb12, mb13, rfl, he16⟩
 refine ⟨_, _, _, rfl, he16, rfl, fun ac18 En19 Hv20 => ?_⟩
 refine d_e [0,1,2,3,8,9,10] [] En19 fun ac21 En22 => ?_
 refine then_normal ?_
 refine wp_seq ?_
 refine d_s [0,1,2,3,8,10,26] [] En22 fun ac23 En24 => ?_
 refine c_f En24 ?_
 refine wp_skip ?_
 refine then_normal ?_
 refine wp_seq ?_
 refine region_from ?_
 refine d_k [0,1,2,8,10,28,31] [(1, g_i .i64 (Go.Dbr.u16_to_i64 (x := nn) rfl)), (4, g_n (w_a (List.length fr) 1))] 5 En24 fun ac25 En26 => ?_
 refine f_o ?_
 refine q_v En26 (Go.Dbr.run_rem_nat (UInt16.toNat nn) ((List.length fr) + 1) (by omega) _) fun ac27 En28 => ?_
 refine d_e [0,1,2,8,10,11] [] En28 fun ac29 En30 => ?_
 refine then_normal ?_
 refine wp_seq ?_
 refine wp_seq ?_
 refine region_from ?_
 refine d_k [0,1,2,8,10,11,33,34,35] [] 3 En30 fun ac31 En32 => ?_
 refine f_o ?_
 refine c_l [0,1] (M := [.box sb12 [.map (some mb13)] 52, .map mb13 (kvs FV.v [])]) En32 Hv20 (fun hM33 => put_bad _ sb12 mb13 [] nm (by first | assumption | omega | decide) a_ol c_ol ol ((i_ol.ev Hv20).pick [0, 1] (by kernel_rfl)) h1 hM33) ?_
 rintro _ wo34 ⟨rfl, he35⟩
 refine ⟨_, _, [.box sb12 [.map (some mb13)] 52, .map mb13 (kvs FV.v [])], rfl, he35, by kernel_rfl, fun ac37 En38 Hv39 => ?_⟩
 refine d_e [0,1,2,8,10,11,45] [(4, g_b (show (mayI nm (List.length ol) [] != (0 : Int)) = true from (by rw [bne, beq_eq_false_iff_ne.2 h1]; rfl)))] En38 fun ac40 En41 => ?_
 refine then_normal ?_
 refine c_t En41 ?_
 refine wp_seq ?_
 refine region_from ?_
 refine d_k [0,1,2,8,10,11,46] [] 1 En41 fun ac42 En43 => ?_
 refine f_o ?_
 refine c_p En43 Hv39 (name_go _ nm (by first | assumption | omega)) fun ac48 wo45 En49 Hv50 => ?_
 refine d_k [0,1,2,8,10,11,49] [] 4 En49 fun ac51 En52 => ?_
 rcases Bool.eq_false_or_eq_true (!(nmL nm)) with hb53 | hb53
 ·
  have En54 := En52.fx (t := 49) (congrArg Value.bool hb53)
  have hp55 : ¬ (nmL nm = true) := by simpa using hb53
  refine d_e [0,1,2,8,10,11] [] En54 fun ac56 En57 => ?_
  refine then_normal ?_
  refine wp_ret ?_
  refine then_ret ?_
  refine d_ret1 (t := 8) (v := .bool true) En57 (by kernel_rfl) (by kernel_rfl) ?_
  exact ⟨rfl, Hv50.pick [] (by kernel_rfl) (by decide)⟩
 ·
  have En58 := En52.fx (t := 49) (congrArg Value.bool hb53)
  have hp59 : nmL nm = true := by simpa using hb53
  refine d_e [0,1,2,8,10,11] [(6, g_b (show (decide (((List.length ol : Nat) : Int) > (65536 : Int))) = true from (decide_eq_true (by have := may_not h1 (by simp_all); omega))))] En58 fun ac60 En61 => ?_
  refine then_normal ?_
  refine wp_ret ?_
  refine then_ret ?_
  refine d_ret1 (t := 8) (v := .bool true) En61 (by kernel_rfl) (by kernel_rfl) ?_
  exact ⟨rfl, Hv50.pick [] (by kernel_rfl) (by decide)⟩

theorem torn_b (nm : List UInt8) (a_ol : Option Addr) (c_ol : Nat) (ol : List UInt8) (a_fr : Option Addr) (c_fr : Nat) (fr : List UInt8) (nn : UInt16) (w : World) (s_nm : (List.length nm ≤ 140737488351232)) (i_ol : InB w [] a_ol c_ol ol) (s_ol : List.length ol ≤ 140737488351232) (i_fr : InB w [] a_fr c_fr fr) (s_fr : List.length fr ≤ 140737488351232) (h1 : mayI nm (List.length ol) [] = 0) (h2 : 65536 < List.length fr) : Calls Try.prog 4 #[.string (bstr nm), .slice a_ol (List.length ol) c_ol, .slice a_fr (List.length fr) c_fr, uv16 nn] w fun e w' => e = .returned (.bool true) ∧ Ev w [] w' [] := by
 have hos := i_ol.small
 have hfs := i_fr.small
 have hkm : UInt16.toNat nn % (List.length fr + 1) ≤ List.length fr := Nat.le_of_lt_succ (Nat.mod_lt _ (Nat.succ_pos _))
 refine d_0 [(0, .string (bstr nm)), (1, .slice a_ol (List.length ol) c_ol), (2, .slice a_fr (List.length fr) c_fr), (3, uv16 nn)] 123 Go.Proofs.Try.func4 Go.Proofs.Try.ntmps4 (Heap.nil _) fun act0 En0 Hv0 => ?_
 refine d_s [0,1,2,3,8] [] En0 fun ac1 En2 => ?_
 refine wp_seq ?_
 refine region_from ?_
 refine f_o ?_
 refine c_p En2 Hv0 (head_ok _) fun ac7 wo4 En8 Hv9 => ?_
 refine d_e [0,1,2,3,8,9] [] En8 fun ac10 En11 => ?_
 refine then_normal ?_
 refine wp_seq ?_
 refine region_from ?_
 refine f_o ?_
 refine c_0 En11 Hv9 (new_go _) ?_
 rintro _ wo15 ⟨sb12, mb13, rfl, he16⟩
 refine ⟨_, _, _, rfl, he16, rfl, fun ac18 En19 Hv20 => ?_⟩
 refine d_e [0,1,2,3,8,9,10] [] En19 fun ac21 En22 => ?_
 refine then_normal ?_
 refine wp_seq ?_
 refine d_s [0,1,2,3,8,10,26] [] En22 fun ac23 En24 => ?_
 refine c_f En24 ?_
 refine wp_skip ?_
 refine then_normal ?_
 refine wp_seq ?_
 refine region_from ?_
 refine d_k [0,1,2,8,10,28,31] [(1, g_i .i64 (Go.Dbr.u16_to_i64 (x := nn) rfl)), (4, g_n (w_a (List.length fr) 1))] 5 En24 fun ac25 En26 => ?_
 refine f_o ?_
 refine q_v En26 (Go.Dbr.run_rem_nat (UInt16.toNat nn) ((List.length fr) + 1) (by omega) _) fun ac27 En28 => ?_
 refine d_e [0,1,2,8,10,11] [] En28 fun ac29 En30 => ?_
 refine then_normal ?_
 refine wp_seq ?_
 refine wp_seq ?_
 refine region_from ?_
 refine d_k [0,1,2,8,10,11,33,34,35] [] 3 En30 fun ac31 En32 => ?_
 refine f_o ?_
 refine c_l [0,1] (M := [.box sb12 [.map (some mb13)] 52, .map mb13 (kvs FV.v [])]) En32 Hv20 (fun hM35 => put_ok _ sb12 mb13 [] nm (by first | assumption | omega | decide) a_ol c_ol ol ((i_ol.ev Hv20).pick [0, 1] (by kernel_rfl)) h1 hM35) ?_
 rintro _ wo36 ⟨ao33, co34, rfl, he37⟩
 refine ⟨_, _, [.box sb12 [.map (some mb13)] 52, .map mb13 (kvs FV.v (kvPut nm ⟨ao33, List.length ol, co34, none, 0, 0, false, 0⟩ [])), .vec ao33 co34 1 (bys ol) 5], rfl, he37, by kernel_rfl, fun ac39 En40 Hv41 => ?_⟩
 refine d_k [0,1,2,8,10,11,38,39,40,41,42] [] 10 En40 fun ac42 En43 => ?_
 refine f_o ?_
 have hm44 : ¬ mayI nm (List.length fr) (kvPut nm ⟨ao33, List.length ol, co34, none, 0, 0, false, 0⟩ []) = 0 := by intro g; exact absurd (may_len g) (by omega)
 refine c_l [0,1] (M := [.box sb12 [.map (some mb13)] 52, .map mb13 (kvs FV.v (kvPut nm ⟨ao33, List.length ol, co34, none, 0, 0, false, 0⟩ []))]) En43 Hv41 (fun hM45 => tear_may _ sb12 mb13 (kvPut nm ⟨ao33, List.length ol, co34, none, 0, 0, false, 0⟩ []) nm (by first | assumption | omega | decide) a_fr c_fr fr ((i_fr.ev Hv41).pick [0, 1] (by kernel_rfl)) (((UInt16.toNat nn) % ((List.length fr) + 1) : Nat) : Int) hm44 hM45) ?_
 rintro _ wo46 ⟨rfl, he47⟩
 refine ⟨_, _, [.box sb12 [.map (some mb13)] 52, .map mb13 (kvs FV.v (kvPut nm ⟨ao33, List.length ol, co34, none, 0, 0, false, 0⟩ [])), .vec ao33 co34 1 (bys ol) 5], rfl, he47, by kernel_rfl, fun ac49 En50 Hv51 => ?_⟩
 refine d_e [0,1,2,8,10,11,45] [(11, g_b (show (mayI nm (List.length fr) (kvPut nm ⟨ao33, List.length ol, co34, none, 0, 0, false, 0⟩ []) != (0 : Int)) = true from (by rw [bne, beq_eq_false_iff_ne.2 hm44]; rfl)))] En50 fun ac52 En53 => ?_
 refine then_normal ?_
 refine c_t En53 ?_
 refine wp_seq ?_
 refine region_from ?_
 refine d_k [0,1,2,8,10,11,46] [] 1 En53 fun ac54 En55 => ?_
 refine f_o ?_
 refine c_p En55 Hv51 (name_go _ nm (by first | assumption | omega)) fun ac60 wo57 En61 Hv62 => ?_
 refine d_k [0,1,2,8,10,11,49] [] 4 En61 fun ac63 En64 => ?_
 rcases Bool.eq_false_or_eq_true (!(nmL nm)) with hb65 | hb65
 ·
  have En66 := En64.fx (t := 49) (congrArg Value.bool hb65)
  have hp67 : ¬ (nmL nm = true) := by simpa using hb65
  refine d_e [0,1,2,8,10,11] [] En66 fun ac68 En69 => ?_
  refine then_normal ?_
  refine wp_ret ?_
  refine then_ret ?_
  refine d_ret1 (t := 8) (v := .bool true) En69 (by kernel_rfl) (by kernel_rfl) ?_
  exact ⟨rfl, Hv62.pick [] (by kernel_rfl) (by decide)⟩
 ·
  have En70 := En64.fx (t := 49) (congrArg Value.bool hb65)
  have hp71 : nmL nm = true := by simpa using hb65
  refine d_k [0,1,2,8,10,11,54] [] 9 En70 fun ac72 En73 => ?_
  rcases Bool.eq_false_or_eq_true (decide (((List.length ol : Nat) : Int) > (65536 : Int))) with hb74 | hb74
  ·
   have En75 := En73.fx (t := 54) (congrArg Value.bool hb74)
   have hp76 : ((List.length ol : Nat) : Int) > (65536 : Int) := of_decide_eq_true hb74
   refine d_e [0,1,2,8,10,11] [] En75 fun ac77 En78 => ?_
   refine then_normal ?_
   refine wp_ret ?_
   refine then_ret ?_
   refine d_ret1 (t := 8) (v := .bool true) En78 (by kernel_rfl) (by kernel_rfl) ?_
   exact ⟨rfl, Hv62.pick [] (by kernel_rfl) (by decide)⟩
  ·
   have En79 := En73.fx (t := 54) (congrArg Value.bool hb74)
   have hp80 : ¬ (((List.length ol : Nat) : Int) > (65536 : Int)) := of_decide_eq_false hb74
   refine d_e [0,1,2,8,10,11] [(11, g_b (show (decide (((List.length fr : Nat) : Int) > (65536 : Int))) = true from (decide_eq_true (by omega))))] En79 fun ac81 En82 => ?_
   refine then_normal ?_
   refine wp_ret ?_
   refine then_ret ?_
   refine d_ret1 (t := 8) (v := .bool true) En82 (by kernel_rfl) (by kernel_rfl) ?_
   exact ⟨rfl, Hv62.pick [] (by kernel_rfl) (by decide)⟩

theorem torn_c (nm : List UInt8) (a_ol : Option Addr) (c_ol : Nat) (ol : List UInt8) (a_fr : Option Addr) (c_fr : Nat) (fr : List UInt8) (nn : UInt16) (w : World) (s_nm : (List.length nm ≤ 140737488351232)) (i_ol : InB w [] a_ol c_ol ol) (s_ol : List.length ol ≤ 140737488351232) (i_fr : InB w [] a_fr c_fr fr) (s_fr : List.length fr ≤ 140737488351232) (h0 : nmL nm = true) (h1 : mayI nm (List.length ol) [] = 0) (h2 : List.length fr ≤ 65536) : Calls Try.prog 4 #[.string (bstr nm), .slice a_ol (List.length ol) c_ol, .slice a_fr (List.length fr) c_fr, uv16 nn] w fun e w' => e = .returned (.bool true) ∧ Ev w [] w' [] := by
 have hos := i_ol.small
 have hfs := i_fr.small
 have hkm : UInt16.toNat nn % (List.length fr + 1) ≤ List.length fr := Nat.le_of_lt_succ (Nat.mod_lt _ (Nat.succ_pos _))
 have h3 := may_len h1
 refine d_0 [(0, .string (bstr nm)), (1, .slice a_ol (List.length ol) c_ol), (2, .slice a_fr (List.length fr) c_fr), (3, uv16 nn)] 123 Go.Proofs.Try.func4 Go.Proofs.Try.ntmps4 (Heap.nil _) fun act0 En0 Hv0 => ?_
 refine d_s [0,1,2,3,8] [] En0 fun ac1 En2 => ?_
 refine wp_seq ?_
 refine region_from ?_
 refine f_o ?_
 refine c_p En2 Hv0 (head_ok _) fun ac7 wo4 En8 Hv9 => ?_
 refine d_e [0,1,2,3,8,9] [] En8 fun ac10 En11 => ?_
 refine then_normal ?_
 refine wp_seq ?_
 refine region_from ?_
 refine f_o ?_
 refine c_0 En11 Hv9 (new_go _) ?_
 rintro _ wo15 ⟨sb12, mb13, rfl, he16⟩
 refine ⟨_, _, _, rfl, he16, rfl, fun ac18 En19 Hv20 => ?_⟩
 refine d_e [0,1,2,3,8,9,10] [] En19 fun ac21 En22 => ?_
 refine then_normal ?_
 refine wp_seq ?_
 refine d_s [0,1,2,3,8,10,26] [] En22 fun ac23 En24 => ?_
 refine c_f En24 ?_
 refine wp_skip ?_
 refine then_normal ?_
 refine wp_seq ?_
 refine region_from ?_
 refine d_k [0,1,2,8,10,28,31] [(1, g_i .i64 (Go.Dbr.u16_to_i64 (x := nn) rfl)), (4, g_n (w_a (List.length fr) 1))] 5 En24 fun ac25 En26 => ?_
 refine f_o ?_
 refine q_v En26 (Go.Dbr.run_rem_nat (UInt16.toNat nn) ((List.length fr) + 1) (by omega) _) fun ac27 En28 => ?_
 refine d_e [0,1,2,8,10,11] [] En28 fun ac29 En30 => ?_
 refine then_normal ?_
 refine wp_seq ?_
 refine wp_seq ?_
 refine region_from ?_
 refine d_k [0,1,2,8,10,11,33,34,35] [] 3 En30 fun ac31 En32 => ?_
 refine f_o ?_
 refine c_l [0,1] (M := [.box sb12 [.map (some mb13)] 52, .map mb13 (kvs FV.v [])]) En32 Hv20 (fun hM35 => put_ok _ sb12 mb13 [] nm (by first | assumption | omega | decide) a_ol c_ol ol ((i_ol.ev Hv20).pick [0, 1] (by kernel_rfl)) h1 hM35) ?_
 rintro _ wo36 ⟨ao33, co34, rfl, he37⟩
 refine ⟨_, _, [.box sb12 [.map (some mb13)] 52, .map mb13 (kvs FV.v (kvPut nm ⟨ao33, List.length ol, co34, none, 0, 0, false, 0⟩ [])), .vec ao33 co34 1 (bys ol) 5], rfl, he37, by kernel_rfl, fun ac39 En40 Hv41 => ?_⟩
 refine d_k [0,1,2,8,10,11,38,39,40,41,42] [] 10 En40 fun ac42 En43 => ?_
 refine f_o ?_
 refine c_l [0,1] (M := [.box sb12 [.map (some mb13)] 52, .map mb13 (kvs FV.v (kvPut nm ⟨ao33, List.length ol, co34, none, 0, 0, false, 0⟩ []))]) En43 Hv41 (fun hM46 => tear_ok _ sb12 mb13 (kvPut nm ⟨ao33, List.length ol, co34, none, 0, 0, false, 0⟩ []) nm (by first | assumption | omega | decide) a_fr c_fr fr ((i_fr.ev Hv41).pick [0, 1] (by kernel_rfl)) ((UInt16.toNat nn) % ((List.length fr) + 1)) (by first | omega | (simp; done) | (simp; omega)) (may_5 h0 (by omega) some_self) ao33 (List.length ol) co34 none 0 0 0 old_self hM46) ?_
 rintro _ wo47 ⟨ao44, co45, rfl, he48⟩
 refine ⟨_, _, [.box sb12 [.map (some mb13)] 52, .map mb13 (kvs FV.v (kvPut nm ⟨ao33, List.length ol, co34, ao44, List.length fr, co45, true, (UInt16.toNat nn) % ((List.length fr) + 1)⟩ (kvPut nm ⟨ao33, List.length ol, co34, none, 0, 0, false, 0⟩ []))), .vec ao44 co45 1 (bys fr) 5, .vec ao33 co34 1 (bys ol) 5], rfl, he48, by kernel_rfl, fun ac50 En51 Hv52 => ?_⟩
 refine d_e [0,1,2,8,10,11,45] [] En51 fun ac53 En54 => ?_
 refine then_normal ?_
 refine c_f En54 ?_
 refine wp_skip ?_
 refine then_normal ?_
 refine wp_seq ?_
 refine region_from ?_
 refine d_k [0,1,2,8,10,11,60,61] [] 2 En54 fun ac55 En56 => ?_
 refine f_o ?_
 refine c_l [0,1] (M := [.box sb12 [.map (some mb13)] 52, .map mb13 (kvs FV.v (kvPut nm ⟨ao33, List.length ol, co34, ao44, List.length fr, co45, true, (UInt16.toNat nn) % ((List.length fr) + 1)⟩ (kvPut nm ⟨ao33, List.length ol, co34, none, 0, 0, false, 0⟩ [])))]) En56 Hv52 (fun hM59 => read_go _ sb12 mb13 (kvPut nm ⟨ao33, List.length ol, co34, ao44, List.length fr, co45, true, (UInt16.toNat nn) % ((List.length fr) + 1)⟩ (kvPut nm ⟨ao33, List.length ol, co34, none, 0, 0, false, 0⟩ [])) nm (by first | assumption | omega | decide) some_self ol fr ao33 co34 ao44 co45 true ((UInt16.toNat nn) % ((List.length fr) + 1)) old_self (bys_in Hv52.heap (k := 3) rfl [0, 1] (by kernel_rfl) rfl (by first | omega | (simp; done) | (simp; omega))) (bys_in Hv52.heap (k := 2) rfl [0, 1] (by kernel_rfl) rfl (by first | omega | (simp; done) | (simp; omega))) (by first | omega | (simp; done) | (simp; omega)) (by first | omega | (simp; done) | (simp; omega)) (by first | omega | (simp; done) | (simp; omega)) hM59) ?_
 rintro _ wo60 ⟨ao57, co58, rfl, he61⟩
 refine ⟨_, _, [.box sb12 [.map (some mb13)] 52, .map mb13 (kvs FV.v (kvPut nm ⟨ao33, List.length ol, co34, ao44, List.length fr, co45, true, (UInt16.toNat nn) % ((List.length fr) + 1)⟩ (kvPut nm ⟨ao33, List.length ol, co34, none, 0, 0, false, 0⟩ []))), .vec ao57 co58 1 (bys (rdL ol fr ((UInt16.toNat nn) % ((List.length fr) + 1)))) 5, .vec ao44 co45 1 (bys fr) 5, .vec ao33 co34 1 (bys ol) 5], rfl, he61, by kernel_rfl, fun ac63 En64 Hv65 => ?_⟩
 refine d_e [0,1,2,8,10,11,12,13] [] En64 fun ac66 En67 => ?_
 refine then_normal ?_
 refine wp_seq ?_
 refine region_from ?_
 refine d_k [0,1,2,8,10,11,12,13,65,66] [] 2 En67 fun ac68 En69 => ?_
 refine f_o ?_
 have hcap70 := i_fr.cap
 refine op_slice0 (d := some 67) (t := 22) (e := 5) (sz := 1) (len := List.length fr) (cap := c_fr) (hi := (UInt16.toNat nn) % ((List.length fr) + 1)) (ao := a_fr) (lov := none) (hiv := (some (.int .i64 (((UInt16.toNat nn) % ((List.length fr) + 1) : Nat) : Int)))) En69 (by kernel_rfl) (by kernel_rfl) (by kernel_rfl) (by omega) (.inl ⟨rfl, rfl⟩) (.inr ⟨.i64, rfl⟩) ?_
 intro ac71 En72
 refine f_o ?_
 refine op_str (d := some 68) (src := 22) (dst := 9) (e := 5) (ao := a_fr) (cap := c_fr) (p := (UInt16.toNat nn) % ((List.length fr) + 1)) (bs := List.take ((UInt16.toNat nn) % ((List.length fr) + 1)) fr) En72 (by kernel_rfl) (by first | (simp; done) | (simp; omega) | omega) (by kernel_rfl) (by kernel_rfl) (by kernel_rfl) (bys_take_reads (i_fr.ev Hv65).reads ((UInt16.toNat nn) % ((List.length fr) + 1))) (fun e => by have := i_fr.nz e; omega) ?_
 intro ac73 En74
 refine d_e [0,1,2,8,10,11,12,13,14] [] En74 fun ac75 En76 => ?_
 refine then_normal ?_
 refine wp_seq ?_
 refine d_s [0,1,2,8,10,11,12,13,14,72] [] En76 fun ac77 En78 => ?_
 refine c_d (((List.length ol : Nat) : Int) > (((UInt16.toNat nn) % ((List.length fr) + 1) : Nat) : Int)) En78 (fun hc79 => ?_) (fun hc79 => ?_)
 ·
  refine region_from ?_
  refine d_k [0,1,2,8,10,11,12,13,14,73,74,75] [] 3 En78 fun ac80 En81 => ?_
  refine f_o ?_
  have hcap82 := i_ol.cap
  refine op_slice (d := some 76) (t := 22) (e := 5) (sz := 1) (len := List.length ol) (cap := c_ol) (lo := (UInt16.toNat nn) % ((List.length fr) + 1)) (hi := List.length ol) (ao := a_ol) (lov := (some (.int .i64 (((UInt16.toNat nn) % ((List.length fr) + 1) : Nat) : Int)))) (hiv := none) En81 (by kernel_rfl) (by kernel_rfl) (by kernel_rfl) (by omega) (by omega) (.inr ⟨.i64, rfl⟩) (.inl ⟨rfl, rfl⟩) ?_
  intro ac83 En84
  refine f_o ?_
  refine op_str (d := some 77) (src := 22) (dst := 9) (e := 5) (ao := cutAt a_ol c_ol ((UInt16.toNat nn) % ((List.length fr) + 1)) 1) (cap := c_ol - ((UInt16.toNat nn) % ((List.length fr) + 1))) (p := (List.length ol) - ((UInt16.toNat nn) % ((List.length fr) + 1))) (bs := List.drop ((UInt16.toNat nn) % ((List.length fr) + 1)) ol) En84 (by kernel_rfl) (by first | (simp; done) | (simp; omega) | omega) (by kernel_rfl) (by kernel_rfl) (by kernel_rfl) (bys_drop_reads (i_ol.ev Hv65).reads c_ol ((UInt16.toNat nn) % ((List.length fr) + 1)) (n := (List.length ol)) (by simp) (by omega) (by omega)) (fun e => cut_nz i_ol.nz e (by omega)) ?_
  intro ac85 En86
  refine f_o ?_
  refine q_v (x := Op.stringOp .add (bstr (List.take ((UInt16.toNat nn) % ((List.length fr) + 1)) fr)) (bstr (List.drop ((UInt16.toNat nn) % ((List.length fr) + 1)) ol))) (v := .string (bstr ((List.take ((UInt16.toNat nn) % ((List.length fr) + 1)) fr) ++ (List.drop ((UInt16.toNat nn) % ((List.length fr) + 1)) ol)))) En86 (Go.Dbr.run_add_str (List.take ((UInt16.toNat nn) % ((List.length fr) + 1)) fr) (List.drop ((UInt16.toNat nn) % ((List.length fr) + 1)) ol) (by first | (simp; done) | (simp; omega) | omega) _) fun ac87 En88 => ?_
  refine d_e [0,1,2,8,10,11,12,13,14] [] En88 fun ac89 En90 => ?_
  refine then_normal ?_
  refine wp_seq ?_
  refine region_from ?_
  refine d_k [0,1,2,8,10,11,12,13,14,79,80] [] 2 En90 fun ac91 En92 => ?_
  refine f_o ?_
  refine c_l [0,1] (M := [.box sb12 [.map (some mb13)] 52, .map mb13 (kvs FV.v (kvPut nm ⟨ao33, List.length ol, co34, ao44, List.length fr, co45, true, (UInt16.toNat nn) % ((List.length fr) + 1)⟩ (kvPut nm ⟨ao33, List.length ol, co34, none, 0, 0, false, 0⟩ [])))]) En92 Hv65 (fun hM93 => torn_go _ sb12 mb13 (kvPut nm ⟨ao33, List.length ol, co34, ao44, List.length fr, co45, true, (UInt16.toNat nn) % ((List.length fr) + 1)⟩ (kvPut nm ⟨ao33, List.length ol, co34, none, 0, 0, false, 0⟩ [])) nm (by first | assumption | omega | decide) ao33 (List.length ol) co34 ao44 (List.length fr) co45 true ((UInt16.toNat nn) % ((List.length fr) + 1)) old_self hM93) ?_
  rintro _ wo94 ⟨rfl, he95⟩
  refine ⟨_, _, [.box sb12 [.map (some mb13)] 52, .map mb13 (kvs FV.v (kvPut nm ⟨ao33, List.length ol, co34, ao44, List.length fr, co45, true, (UInt16.toNat nn) % ((List.length fr) + 1)⟩ (kvPut nm ⟨ao33, List.length ol, co34, none, 0, 0, false, 0⟩ []))), .vec ao57 co58 1 (bys (rdL ol fr ((UInt16.toNat nn) % ((List.length fr) + 1)))) 5, .vec ao44 co45 1 (bys fr) 5, .vec ao33 co34 1 (bys ol) 5], rfl, he95, by kernel_rfl, fun ac97 En98 Hv99 => ?_⟩
  refine d_e [0,1,2,8,10,11,12,13,14,15] [] En98 fun ac100 En101 => ?_
  refine then_normal ?_
  refine wp_seq ?_
  refine region_from ?_
  refine d_k [0,1,2,8,10,11,12,13,14,15,82,83] [] 2 En101 fun ac102 En103 => ?_
  refine f_o ?_
  refine c_l [0,1] (M := [.box sb12 [.map (some mb13)] 52, .map mb13 (kvs FV.v (kvPut nm ⟨ao33, List.length ol, co34, ao44, List.length fr, co45, true, (UInt16.toNat nn) % ((List.length fr) + 1)⟩ (kvPut nm ⟨ao33, List.length ol, co34, none, 0, 0, false, 0⟩ [])))]) En103 Hv99 (fun hM104 => settle_ok _ sb12 mb13 (kvPut nm ⟨ao33, List.length ol, co34, ao44, List.length fr, co45, true, (UInt16.toNat nn) % ((List.length fr) + 1)⟩ (kvPut nm ⟨ao33, List.length ol, co34, none, 0, 0, false, 0⟩ [])) nm (by first | assumption | omega | decide) some_self ao33 (List.length ol) co34 ao44 (List.length fr) co45 ((UInt16.toNat nn) % ((List.length fr) + 1)) old_self hM104) ?_
  rintro _ wo105 ⟨rfl, he106⟩
  refine ⟨_, _, [.box sb12 [.map (some mb13)] 52, .map mb13 (kvs FV.v (kvPut nm ⟨ao44, List.length fr, co45, none, 0, 0, false, 0⟩ (kvPut nm ⟨ao33, List.length ol, co34, ao44, List.length fr, co45, true, (UInt16.toNat nn) % ((List.length fr) + 1)⟩ (kvPut nm ⟨ao33, List.length ol, co34, none, 0, 0, false, 0⟩ [])))), .vec ao57 co58 1 (bys (rdL ol fr ((UInt16.toNat nn) % ((List.length fr) + 1)))) 5, .vec ao44 co45 1 (bys fr) 5, .vec ao33 co34 1 (bys ol) 5], rfl, he106, by kernel_rfl, fun ac108 En109 Hv110 => ?_⟩
  refine d_e [0,1,2,8,10,11,12,13,14,15,16] [] En109 fun ac111 En112 => ?_
  refine then_normal ?_
  refine wp_seq ?_
  refine region_from ?_
  refine d_k [0,1,2,8,10,11,12,13,14,15,16,86,87] [] 2 En112 fun ac113 En114 => ?_
  refine f_o ?_
  refine c_l [0,1] (M := [.box sb12 [.map (some mb13)] 52, .map mb13 (kvs FV.v (kvPut nm ⟨ao44, List.length fr, co45, none, 0, 0, false, 0⟩ (kvPut nm ⟨ao33, List.length ol, co34, ao44, List.length fr, co45, true, (UInt16.toNat nn) % ((List.length fr) + 1)⟩ (kvPut nm ⟨ao33, List.length ol, co34, none, 0, 0, false, 0⟩ []))))]) En114 Hv110 (fun hM117 => read_old _ sb12 mb13 (kvPut nm ⟨ao44, List.length fr, co45, none, 0, 0, false, 0⟩ (kvPut nm ⟨ao33, List.length ol, co34, ao44, List.length fr, co45, true, (UInt16.toNat nn) % ((List.length fr) + 1)⟩ (kvPut nm ⟨ao33, List.length ol, co34, none, 0, 0, false, 0⟩ []))) nm (by first | assumption | omega | decide) some_self fr ao44 co45 false old_self (bys_in Hv110.heap (k := 3) rfl [0, 1] (by kernel_rfl) rfl (by first | omega | (simp; done) | (simp; omega))) (by first | omega | (simp; done) | (simp; omega)) hM117) ?_
  rintro _ wo118 ⟨ao115, co116, rfl, he119⟩
  refine ⟨_, _, [.box sb12 [.map (some mb13)] 52, .map mb13 (kvs FV.v (kvPut nm ⟨ao44, List.length fr, co45, none, 0, 0, false, 0⟩ (kvPut nm ⟨ao33, List.length ol, co34, ao44, List.length fr, co45, true, (UInt16.toNat nn) % ((List.length fr) + 1)⟩ (kvPut nm ⟨ao33, List.length ol, co34, none, 0, 0, false, 0⟩ [])))), .vec ao115 co116 1 (bys fr) 5, .vec ao57 co58 1 (bys (rdL ol fr ((UInt16.toNat nn) % ((List.length fr) + 1)))) 5, .vec ao44 co45 1 (bys fr) 5, .vec ao33 co34 1 (bys ol) 5], rfl, he119, by kernel_rfl, fun ac121 En122 Hv123 => ?_⟩
  refine d_e [0,1,2,8,10,11,12,13,14,15,16,17,18] [] En122 fun ac124 En125 => ?_
  refine then_normal ?_
  refine wp_seq ?_
  refine region_from ?_
  refine d_k [0,1,2,8,10,11,14,15,16,17,18,93,94] [] 4 En125 fun ac126 En127 => ?_
  refine f_o ?_
  refine op_str (d := some 95) (src := 22) (dst := 9) (e := 5) (ao := ao57) (cap := co58) (p := List.length (rdL ol fr ((UInt16.toNat nn) % ((List.length fr) + 1)))) (bs := rdL ol fr ((UInt16.toNat nn) % ((List.length fr) + 1))) En127 (by kernel_rfl) rfl (by kernel_rfl) (by kernel_rfl) (by kernel_rfl) (Hv123.heap.reads (k := 3) rfl) (bys_vnz Hv123.heap (k := 3) rfl) ?_
  intro ac128 En129
  refine d_k [0,1,2,8,10,11,14,110,111] [(6, g_v (show (.bool (ByteArray.toList (bstr (rdL ol fr ((UInt16.toNat nn) % ((List.length fr) + 1)))) == ByteArray.toList (bstr ((List.take ((UInt16.toNat nn) % ((List.length fr) + 1)) fr) ++ (List.drop ((UInt16.toNat nn) % ((List.length fr) + 1)) ol)))) : Value) = .bool true by rw [Go.Dbr.bstr_eq (rdL ol fr ((UInt16.toNat nn) % ((List.length fr) + 1))) ((List.take ((UInt16.toNat nn) % ((List.length fr) + 1)) fr) ++ (List.drop ((UInt16.toNat nn) % ((List.length fr) + 1)) ol)), show ((rdL ol fr ((UInt16.toNat nn) % ((List.length fr) + 1))) == ((List.take ((UInt16.toNat nn) % ((List.length fr) + 1)) fr) ++ (List.drop ((UInt16.toNat nn) % ((List.length fr) + 1)) ol))) = true from (by first | (rw [torn_want (by omega)]; exact beq_self_eq_true _) | (rw [torn_want2 (by omega)]; exact beq_self_eq_true _))] <;> rfl))] 21 En129 fun ac130 En131 => ?_
  refine f_o ?_
  refine op_str (d := some 112) (src := 22) (dst := 9) (e := 5) (ao := ao115) (cap := co116) (p := List.length fr) (bs := fr) En131 (by kernel_rfl) rfl (by kernel_rfl) (by kernel_rfl) (by kernel_rfl) (Hv123.heap.reads (k := 2) rfl) (bys_vnz Hv123.heap (k := 2) rfl) ?_
  intro ac132 En133
  refine d_k [0,1,2,8,10,11,14,110,112,113] [] 23 En133 fun ac134 En135 => ?_
  refine f_o ?_
  refine op_str (d := some 114) (src := 22) (dst := 9) (e := 5) (ao := a_fr) (cap := c_fr) (p := List.length fr) (bs := fr) En135 (by kernel_rfl) rfl (by kernel_rfl) (by kernel_rfl) (by kernel_rfl) (i_fr.ev Hv123).reads i_fr.nz ?_
  intro ac136 En137
  refine d_k [0,1,2,8,10,11,14,117,118,119] [(24, g_v (show (.bool (ByteArray.toList (bstr fr) == ByteArray.toList (bstr fr)) : Value) = .bool true by rw [Go.Dbr.bstr_eq fr fr, show (fr == fr) = true from (beq_self_eq_true _)] <;> rfl))] 29 En137 fun ac138 En139 => ?_
  refine f_o ?_
  refine c_l [0,1] (M := [.box sb12 [.map (some mb13)] 52, .map mb13 (kvs FV.v (kvPut nm ⟨ao44, List.length fr, co45, none, 0, 0, false, 0⟩ (kvPut nm ⟨ao33, List.length ol, co34, ao44, List.length fr, co45, true, (UInt16.toNat nn) % ((List.length fr) + 1)⟩ (kvPut nm ⟨ao33, List.length ol, co34, none, 0, 0, false, 0⟩ []))))]) En139 Hv123 (fun hM140 => torn_go _ sb12 mb13 (kvPut nm ⟨ao44, List.length fr, co45, none, 0, 0, false, 0⟩ (kvPut nm ⟨ao33, List.length ol, co34, ao44, List.length fr, co45, true, (UInt16.toNat nn) % ((List.length fr) + 1)⟩ (kvPut nm ⟨ao33, List.length ol, co34, none, 0, 0, false, 0⟩ []))) nm (by first | assumption | omega | decide) ao44 (List.length fr) co45 none 0 0 false 0 old_self hM140) ?_
  rintro _ wo141 ⟨rfl, he142⟩
  refine ⟨_, _, [.box sb12 [.map (some mb13)] 52, .map mb13 (kvs FV.v (kvPut nm ⟨ao44, List.length fr, co45, none, 0, 0, false, 0⟩ (kvPut nm ⟨ao33, List.length ol, co34, ao44, List.length fr, co45, true, (UInt16.toNat nn) % ((List.length fr) + 1)⟩ (kvPut nm ⟨ao33, List.length ol, co34, none, 0, 0, false, 0⟩ [])))), .vec ao115 co116 1 (bys fr) 5, .vec ao57 co58 1 (bys (rdL ol fr ((UInt16.toNat nn) % ((List.length fr) + 1)))) 5, .vec ao44 co45 1 (bys fr) 5, .vec ao33 co34 1 (bys ol) 5], rfl, he142, by kernel_rfl, fun ac144 En145 Hv146 => ?_⟩
  refine d_e [0,1,2,8,10,11,14] [] En145 fun ac147 En148 => ?_
  refine then_normal ?_
  refine wp_ret ?_
  refine d_ret1 (t := 8) (v := .bool true) En148 (by kernel_rfl) (by kernel_rfl) ?_
  exact ⟨rfl, Hv146.pick [] (by kernel_rfl) (by decide)⟩
 ·
  refine wp_skip ?_
  refine then_normal ?_
  refine wp_seq ?_
  refine region_from ?_
  refine d_k [0,1,2,8,10,11,12,13,14,79,80] [] 2 En78 fun ac149 En150 => ?_
  refine f_o ?_
  refine c_l [0,1] (M := [.box sb12 [.map (some mb13)] 52, .map mb13 (kvs FV.v (kvPut nm ⟨ao33, List.length ol, co34, ao44, List.length fr, co45, true, (UInt16.toNat nn) % ((List.length fr) + 1)⟩ (kvPut nm ⟨ao33, List.length ol, co34, none, 0, 0, false, 0⟩ [])))]) En150 Hv65 (fun hM151 => torn_go _ sb12 mb13 (kvPut nm ⟨ao33, List.length ol, co34, ao44, List.length fr, co45, true, (UInt16.toNat nn) % ((List.length fr) + 1)⟩ (kvPut nm ⟨ao33, List.length ol, co34, none, 0, 0, false, 0⟩ [])) nm (by first | assumption | omega | decide) ao33 (List.length ol) co34 ao44 (List.length fr) co45 true ((UInt16.toNat nn) % ((List.length fr) + 1)) old_self hM151) ?_
  rintro _ wo152 ⟨rfl, he153⟩
  refine ⟨_, _, [.box sb12 [.map (some mb13)] 52, .map mb13 (kvs FV.v (kvPut nm ⟨ao33, List.length ol, co34, ao44, List.length fr, co45, true, (UInt16.toNat nn) % ((List.length fr) + 1)⟩ (kvPut nm ⟨ao33, List.length ol, co34, none, 0, 0, false, 0⟩ []))), .vec ao57 co58 1 (bys (rdL ol fr ((UInt16.toNat nn) % ((List.length fr) + 1)))) 5, .vec ao44 co45 1 (bys fr) 5, .vec ao33 co34 1 (bys ol) 5], rfl, he153, by kernel_rfl, fun ac155 En156 Hv157 => ?_⟩
  refine d_e [0,1,2,8,10,11,12,13,14,15] [] En156 fun ac158 En159 => ?_
  refine then_normal ?_
  refine wp_seq ?_
  refine region_from ?_
  refine d_k [0,1,2,8,10,11,12,13,14,15,82,83] [] 2 En159 fun ac160 En161 => ?_
  refine f_o ?_
  refine c_l [0,1] (M := [.box sb12 [.map (some mb13)] 52, .map mb13 (kvs FV.v (kvPut nm ⟨ao33, List.length ol, co34, ao44, List.length fr, co45, true, (UInt16.toNat nn) % ((List.length fr) + 1)⟩ (kvPut nm ⟨ao33, List.length ol, co34, none, 0, 0, false, 0⟩ [])))]) En161 Hv157 (fun hM162 => settle_ok _ sb12 mb13 (kvPut nm ⟨ao33, List.length ol, co34, ao44, List.length fr, co45, true, (UInt16.toNat nn) % ((List.length fr) + 1)⟩ (kvPut nm ⟨ao33, List.length ol, co34, none, 0, 0, false, 0⟩ [])) nm (by first | assumption | omega | decide) some_self ao33 (List.length ol) co34 ao44 (List.length fr) co45 ((UInt16.toNat nn) % ((List.length fr) + 1)) old_self hM162) ?_
  rintro _ wo163 ⟨rfl, he164⟩
  refine ⟨_, _, [.box sb12 [.map (some mb13)] 52, .map mb13 (kvs FV.v (kvPut nm ⟨ao44, List.length fr, co45, none, 0, 0, false, 0⟩ (kvPut nm ⟨ao33, List.length ol, co34, ao44, List.length fr, co45, true, (UInt16.toNat nn) % ((List.length fr) + 1)⟩ (kvPut nm ⟨ao33, List.length ol, co34, none, 0, 0, false, 0⟩ [])))), .vec ao57 co58 1 (bys (rdL ol fr ((UInt16.toNat nn) % ((List.length fr) + 1)))) 5, .vec ao44 co45 1 (bys fr) 5, .vec ao33 co34 1 (bys ol) 5], rfl, he164, by kernel_rfl, fun ac166 En167 Hv168 => ?_⟩
  refine d_e [0,1,2,8,10,11,12,13,14,15,16] [] En167 fun ac169 En170 => ?_
  refine then_normal ?_
  refine wp_seq ?_
  refine region_from ?_
  refine d_k [0,1,2,8,10,11,12,13,14,15,16,86,87] [] 2 En170 fun ac171 En172 => ?_
  refine f_o ?_
  refine c_l [0,1] (M := [.box sb12 [.map (some mb13)] 52, .map mb13 (kvs FV.v (kvPut nm ⟨ao44, List.length fr, co45, none, 0, 0, false, 0⟩ (kvPut nm ⟨ao33, List.length ol, co34, ao44, List.length fr, co45, true, (UInt16.toNat nn) % ((List.length fr) + 1)⟩ (kvPut nm ⟨ao33, List.length ol, co34, none, 0, 0, false, 0⟩ []))))]) En172 Hv168 (fun hM175 => read_old _ sb12 mb13 (kvPut nm ⟨ao44, List.length fr, co45, none, 0, 0, false, 0⟩ (kvPut nm ⟨ao33, List.length ol, co34, ao44, List.length fr, co45, true, (UInt16.toNat nn) % ((List.length fr) + 1)⟩ (kvPut nm ⟨ao33, List.length ol, co34, none, 0, 0, false, 0⟩ []))) nm (by first | assumption | omega | decide) some_self fr ao44 co45 false old_self (bys_in Hv168.heap (k := 3) rfl [0, 1] (by kernel_rfl) rfl (by first | omega | (simp; done) | (simp; omega))) (by first | omega | (simp; done) | (simp; omega)) hM175) ?_
  rintro _ wo176 ⟨ao173, co174, rfl, he177⟩
  refine ⟨_, _, [.box sb12 [.map (some mb13)] 52, .map mb13 (kvs FV.v (kvPut nm ⟨ao44, List.length fr, co45, none, 0, 0, false, 0⟩ (kvPut nm ⟨ao33, List.length ol, co34, ao44, List.length fr, co45, true, (UInt16.toNat nn) % ((List.length fr) + 1)⟩ (kvPut nm ⟨ao33, List.length ol, co34, none, 0, 0, false, 0⟩ [])))), .vec ao173 co174 1 (bys fr) 5, .vec ao57 co58 1 (bys (rdL ol fr ((UInt16.toNat nn) % ((List.length fr) + 1)))) 5, .vec ao44 co45 1 (bys fr) 5, .vec ao33 co34 1 (bys ol) 5], rfl, he177, by kernel_rfl, fun ac179 En180 Hv181 => ?_⟩
  refine d_e [0,1,2,8,10,11,12,13,14,15,16,17,18] [] En180 fun ac182 En183 => ?_
  refine then_normal ?_
  refine wp_seq ?_
  refine region_from ?_
  refine d_k [0,1,2,8,10,11,14,15,16,17,18,93,94] [] 4 En183 fun ac184 En185 => ?_
  refine f_o ?_
  refine op_str (d := some 95) (src := 22) (dst := 9) (e := 5) (ao := ao57) (cap := co58) (p := List.length (rdL ol fr ((UInt16.toNat nn) % ((List.length fr) + 1)))) (bs := rdL ol fr ((UInt16.toNat nn) % ((List.length fr) + 1))) En185 (by kernel_rfl) rfl (by kernel_rfl) (by kernel_rfl) (by kernel_rfl) (Hv181.heap.reads (k := 3) rfl) (bys_vnz Hv181.heap (k := 3) rfl) ?_
  intro ac186 En187
  refine d_k [0,1,2,8,10,11,14,110,111] [(6, g_v (show (.bool (ByteArray.toList (bstr (rdL ol fr ((UInt16.toNat nn) % ((List.length fr) + 1)))) == ByteArray.toList (bstr (List.take ((UInt16.toNat nn) % ((List.length fr) + 1)) fr))) : Value) = .bool true by rw [Go.Dbr.bstr_eq (rdL ol fr ((UInt16.toNat nn) % ((List.length fr) + 1))) (List.take ((UInt16.toNat nn) % ((List.length fr) + 1)) fr), show ((rdL ol fr ((UInt16.toNat nn) % ((List.length fr) + 1))) == (List.take ((UInt16.toNat nn) % ((List.length fr) + 1)) fr)) = true from (by first | (rw [torn_want (by omega)]; exact beq_self_eq_true _) | (rw [torn_want2 (by omega)]; exact beq_self_eq_true _))] <;> rfl))] 21 En187 fun ac188 En189 => ?_
  refine f_o ?_
  refine op_str (d := some 112) (src := 22) (dst := 9) (e := 5) (ao := ao173) (cap := co174) (p := List.length fr) (bs := fr) En189 (by kernel_rfl) rfl (by kernel_rfl) (by kernel_rfl) (by kernel_rfl) (Hv181.heap.reads (k := 2) rfl) (bys_vnz Hv181.heap (k := 2) rfl) ?_
  intro ac190 En191
  refine d_k [0,1,2,8,10,11,14,110,112,113] [] 23 En191 fun ac192 En193 => ?_
  refine f_o ?_
  refine op_str (d := some 114) (src := 22) (dst := 9) (e := 5) (ao := a_fr) (cap := c_fr) (p := List.length fr) (bs := fr) En193 (by kernel_rfl) rfl (by kernel_rfl) (by kernel_rfl) (by kernel_rfl) (i_fr.ev Hv181).reads i_fr.nz ?_
  intro ac194 En195
  refine d_k [0,1,2,8,10,11,14,117,118,119] [(24, g_v (show (.bool (ByteArray.toList (bstr fr) == ByteArray.toList (bstr fr)) : Value) = .bool true by rw [Go.Dbr.bstr_eq fr fr, show (fr == fr) = true from (beq_self_eq_true _)] <;> rfl))] 29 En195 fun ac196 En197 => ?_
  refine f_o ?_
  refine c_l [0,1] (M := [.box sb12 [.map (some mb13)] 52, .map mb13 (kvs FV.v (kvPut nm ⟨ao44, List.length fr, co45, none, 0, 0, false, 0⟩ (kvPut nm ⟨ao33, List.length ol, co34, ao44, List.length fr, co45, true, (UInt16.toNat nn) % ((List.length fr) + 1)⟩ (kvPut nm ⟨ao33, List.length ol, co34, none, 0, 0, false, 0⟩ []))))]) En197 Hv181 (fun hM198 => torn_go _ sb12 mb13 (kvPut nm ⟨ao44, List.length fr, co45, none, 0, 0, false, 0⟩ (kvPut nm ⟨ao33, List.length ol, co34, ao44, List.length fr, co45, true, (UInt16.toNat nn) % ((List.length fr) + 1)⟩ (kvPut nm ⟨ao33, List.length ol, co34, none, 0, 0, false, 0⟩ []))) nm (by first | assumption | omega | decide) ao44 (List.length fr) co45 none 0 0 false 0 old_self hM198) ?_
  rintro _ wo199 ⟨rfl, he200⟩
  refine ⟨_, _, [.box sb12 [.map (some mb13)] 52, .map mb13 (kvs FV.v (kvPut nm ⟨ao44, List.length fr, co45, none, 0, 0, false, 0⟩ (kvPut nm ⟨ao33, List.length ol, co34, ao44, List.length fr, co45, true, (UInt16.toNat nn) % ((List.length fr) + 1)⟩ (kvPut nm ⟨ao33, List.length ol, co34, none, 0, 0, false, 0⟩ [])))), .vec ao173 co174 1 (bys fr) 5, .vec ao57 co58 1 (bys (rdL ol fr ((UInt16.toNat nn) % ((List.length fr) + 1)))) 5, .vec ao44 co45 1 (bys fr) 5, .vec ao33 co34 1 (bys ol) 5], rfl, he200, by kernel_rfl, fun ac202 En203 Hv204 => ?_⟩
  refine d_e [0,1,2,8,10,11,14] [] En203 fun ac205 En206 => ?_
  refine then_normal ?_
  refine wp_ret ?_
  refine d_ret1 (t := 8) (v := .bool true) En206 (by kernel_rfl) (by kernel_rfl) ?_
  exact ⟨rfl, Hv204.pick [] (by kernel_rfl) (by decide)⟩

theorem torn_walk (nm : List UInt8) (a_ol : Option Addr) (c_ol : Nat) (ol : List UInt8) (a_fr : Option Addr) (c_fr : Nat) (fr : List UInt8) (nn : UInt16) (w : World) (s_nm : (List.length nm ≤ 140737488351232)) (i_ol : InB w [] a_ol c_ol ol) (s_ol : List.length ol ≤ 140737488351232) (i_fr : InB w [] a_fr c_fr fr) (s_fr : List.length fr ≤ 140737488351232) : Calls Try.prog 4 #[.string (bstr nm), .slice a_ol (List.length ol) c_ol, .slice a_fr (List.length fr) c_fr, uv16 nn] w fun e w' => e = .returned (.bool true) ∧ Ev w [] w' [] := by
  by_cases h1 : mayI nm (List.length ol) [] = 0
  · by_cases h2 : List.length fr ≤ 65536
    · have h0 : nmL nm = true := Decidable.byContradiction fun g => by rw [may_1 g] at h1; cases h1
      exact torn_c nm a_ol c_ol ol a_fr c_fr fr nn w s_nm i_ol s_ol i_fr s_fr h0 h1 h2
    · exact torn_b nm a_ol c_ol ol a_fr c_fr fr nn w s_nm i_ol s_ol i_fr s_fr h1 (by omega)
  · exact torn_a nm a_ol c_ol ol a_fr c_fr fr nn w s_nm i_ol s_ol i_fr s_fr h1

end Go.Proofs.Ytfeibokonhdgnaa
