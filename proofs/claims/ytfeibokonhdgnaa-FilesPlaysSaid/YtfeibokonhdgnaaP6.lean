/- Layer 2: FilesPlays, walked. -/
import Derived.Test.YtfeibokonhdgnaaP5
import Derived.Test.YtfeibokonhdgnaaK7
namespace Go.Proofs.Ytfeibokonhdgnaa
open Go.Dbr
set_option maxRecDepth 100000
set_option maxHeartbeats 2000000
set_option linter.unusedVariables false
set_option linter.unusedSimpArgs false

theorem inv_0 : Inv [] [] [inn none 0 []] := ⟨List.mem_cons_self, List.Pairwise.nil, fun x hx => absurd hx List.not_mem_nil, Nat.zero_le _, List.Perm.refl _, fun x hx => absurd hx List.not_mem_nil⟩
theorem Inv.hitk {m : FM} {xs : List RF} {D : List Inn} (I : Inv m xs D) {k : Nat} {x : RF} (hx : xs[k]? = Option.some x) : hitX x.1 xs = true ∧ xs[plc x.1 xs]? = Option.some x := by
  obtain ⟨pre, mid, post, P⟩ := plc_split (name := x.1) I.sorted
  have hm : x ∈ xs := List.mem_of_getElem? hx
  cases mid with
  | none =>
    have h : x ∈ pre ++ post := by have h := hm; rw [P.eq] at h; exact h
    exact absurd rfl (P.ne h)
  | some y =>
    have hh : hitX x.1 xs = true := by rw [P.hit]; rfl
    refine ⟨hh, ?_⟩
    rw [P.at hh]
    have h : x ∈ pre ++ (y :: post) := by have h := hm; rw [P.eq] at h; exact h
    rcases List.mem_append.1 h with h | h
    · exact absurd rfl (P.ne (List.mem_append_left _ h))
    · rcases List.mem_cons.1 h with rfl | h
      · rfl
      · exact absurd rfl (P.ne (List.mem_append_right _ h))

theorem plays_walk (a_lo : Option Addr) (c_lo : Nat) (lo : List ((Int) × (List UInt8) × (Sl UInt8) × (Int) × Unit)) (w : World) (i_lo : InS (fun p : (Int) × (List UInt8) × (Sl UInt8) × (Int) × Unit => (fun n : Int => [.int .i64 n]) p.1 ++ (fun p : (List UInt8) × (Sl UInt8) × (Int) × Unit => (fun l : List UInt8 => [.string (bstr l)]) p.1 ++ (fun p : (Sl UInt8) × (Int) × Unit => (fun s : Sl UInt8 => s.f) p.1 ++ (fun p : (Int) × Unit => (fun n : Int => [.int .i64 n]) p.1 ++ (fun _ : Unit => []) p.2) p.2) p.2) p.2) 56 (fun x : (Int) × (List UInt8) × (Sl UInt8) × (Int) × Unit => ((-9223372036854775808 ≤ x.1 ∧ x.1 ≤ 9223372036854775807) ∧ ((List.length x.2.1 ≤ 140737488351232) ∧ ((InB w [] x.2.2.1.a x.2.2.1.c x.2.2.1.l ∧ List.length x.2.2.1.l ≤ 140737488351232) ∧ ((-9223372036854775808 ≤ x.2.2.2.1 ∧ x.2.2.2.1 ≤ 9223372036854775807) ∧ (True)))))) w [] a_lo c_lo lo) : Calls Try.prog 6 #[.slice a_lo (List.length lo) c_lo] w fun e w' => e = .returned (.bool true) ∧ Ev w [] w' [] := by
 have hls := i_lo.small
 refine d_0 [(0, .slice a_lo (List.length lo) c_lo)] 97 Go.Proofs.Try.func6 Go.Proofs.Try.ntmps6 (Heap.nil _) fun act0 En0 Hv0 => ?_
 refine wp_seq ?_
 refine d_r [0,2] [] En0 fun ac1 En2 => ?_
 refine then_normal ?_
 refine wp_seq ?_
 refine region_from ?_
 refine f_o ?_
 refine c_p En2 Hv0 (head_ok _) fun ac7 wo4 En8 Hv9 => ?_
 refine d_e [0,2,3] [] En8 fun ac10 En11 => ?_
 refine then_normal ?_
 refine wp_seq ?_
 refine region_from ?_
 refine f_o ?_
 refine c_0 En11 Hv9 (new_go _) ?_
 rintro _ wo15 ⟨sb12, mb13, rfl, he16⟩
 refine ⟨_, _, _, rfl, he16, rfl, fun ac18 En19 Hv20 => ?_⟩
 refine d_e [0,2,3,4] [] En19 fun ac21 En22 => ?_
 refine then_normal ?_
 refine wp_seq ?_
 refine region_from ?_
 refine d_k [0,2,3,4,16] [] 1 En22 fun ac23 En24 => ?_
 refine f_o ?_
 refine m_m 43 [.slice none 0 0] En24 Hv20 fun ac26 wo27 bk25 En28 Hv29 => ?_
 refine d_e [0,2,3,4,5] [] En28 fun ac30 En31 => ?_
 have Hv32 : Ev w [] wo27 [.box sb12 [.map (some mb13)] 52, .map mb13 (kvs FV.v []), .box bk25 [.slice none 0 0] 43, .vec none 0 5 (List.flatMap fRF []) 48] := Ev.nil (sz := 5) (T := 48) Hv29
 have Hv33 : Ev w [] wo27 [.box sb12 [.map (some mb13)] 52, .map mb13 (kvs FV.v []), .box bk25 [.slice none 0 0] 43, .vec none 0 5 (List.flatMap fRF []) 48, .vec none 0 1 (bys []) 5] := Ev.nil (sz := 1) (T := 5) Hv32
 have Hv34 : Ev w [] wo27 [.box sb12 [.map (some mb13)] 52, .map mb13 (kvs FV.v []), .box bk25 [.slice none 0 0] 43, .vec none 0 5 (List.flatMap fRF []) 48, .grp [inn none 0 []]] := Ev.group (M := [.box sb12 [.map (some mb13)] 52, .map mb13 (kvs FV.v []), .box bk25 [.slice none 0 0] 43, .vec none 0 5 (List.flatMap fRF []) 48]) Hv33 [0,1,2,3] [4] (by kernel_rfl) rfl (by decide)
 refine then_normal ?_
 refine wp_seq ?_
 refine wp_seq ?_
 refine d_r [0,2,4,5,23] [] En31 fun ac35 En36 => ?_
 refine then_normal ?_
 refine c_f En36 ?_
 refine wp_skip ?_
 refine then_normal ?_
 refine wp_seq ?_
 refine wp_seq ?_
 refine d_r [0,2,4,5,6] [] En36 fun ac37 En38 => ?_
 refine then_normal ?_
 refine wp_block ?_
 refine loop_m (fun ms39 ac wo => ∃ (i : Nat) (m : FM) (xs : List RF) (D : List Inn) (ax : Option Addr) (cx : Nat), ms39 = (List.length lo - i : Nat) ∧ Env ac 97 [(0, .slice a_lo (List.length lo) c_lo), (4, pt sb12), (5, pt bk25), (6, ni i)] ∧ Ev w [] wo [.box sb12 [.map (some mb13)] 52, .map mb13 (kvs FV.v m), .box bk25 [.slice ax (List.length xs) cx] 43, .vec ax cx 5 (List.flatMap fRF xs) 48, .grp D] ∧ (i ≤ List.length lo) ∧ (Inv m xs D)) ⟨_, 0, [], [], [inn none 0 []], none, 0, rfl, En38.sub (by kernel_rfl), Hv34.pick [0, 1, 2, 3, 4] (by kernel_rfl) (by decide), (Nat.zero_le _), inv_0⟩ ?_
 rintro mm45 ac41 wo42 ⟨i, m, xs, D, ax, cx, rfl, En43, Hv44, hil, hI⟩
 refine wp_seq ?_
 refine wp_seq ?_
 refine d_r [0,4,5,6,27] [] En43 fun ac46 En47 => ?_
 refine then_normal ?_
 refine c_d (((i : Nat) : Int) < ((List.length lo : Nat) : Int)) En47 (fun hc48 => ?_) (fun hc48 => ?_)
 ·
  refine wp_skip ?_
  refine then_normal ?_
  refine wp_seq ?_
  refine wp_block ?_
  refine wp_seq ?_
  have hb51 : i < List.length lo := (by omega)
  obtain ⟨adr49, had50⟩ := some_of i_lo.nz hb51
  have hb52 : i < List.length lo := by omega
  obtain ⟨⟨x54a, x54b, ⟨a_x54c, c_x54c, x54c⟩, x54d, _⟩, hx53⟩ : ∃ x, (lo)[i]? = some x := ⟨_, List.getElem?_eq_getElem hb52⟩
  obtain ⟨b_x54a, s_x54b, ⟨i_x54c, s_x54c⟩, b_x54d, _⟩ := i_lo.each _ (List.mem_of_getElem? hx53)
  replace b_x54a : (-9223372036854775808 ≤ x54a ∧ x54a ≤ 9223372036854775807) := b_x54a
  replace s_x54b : (List.length x54b ≤ 140737488351232) := s_x54b
  replace i_x54c : InB w [] a_x54c c_x54c x54c := i_x54c
  replace s_x54c : List.length x54c ≤ 140737488351232 := s_x54c
  replace b_x54d : (-9223372036854775808 ≤ x54d ∧ x54d ≤ 9223372036854775807) := b_x54d
  refine region_from ?_
  refine d_k [0,4,5,6,30,31,32,33] [] 4 En47 fun ac55 En56 => ?_
  refine f_o ?_
  refine q_v (x := Instr.indexAt 39 (.slice a_lo (List.length lo) c_lo) (ni i)) (v := .pointer (some (Addr.add adr49 (i * 4)))) En56 (Go.Dbr.run_indexsl (e := 46) (sz := 4) (j := i) (jo := i * 4) had50 (by kernel_rfl) (by kernel_rfl) (by omega) hb51 rfl _) fun ac57 En58 => ?_
  refine f_o ?_
  refine op_loadaggat (d := some 35) (t := 46) (ad := adr49) (ao := a_lo) (ys := List.flatMap (fun p : (Int) × (List UInt8) × (Sl UInt8) × (Int) × Unit => (fun n : Int => [.int .i64 n]) p.1 ++ (fun p : (List UInt8) × (Sl UInt8) × (Int) × Unit => (fun l : List UInt8 => [.string (bstr l)]) p.1 ++ (fun p : (Sl UInt8) × (Int) × Unit => (fun s : Sl UInt8 => s.f) p.1 ++ (fun p : (Int) × Unit => (fun n : Int => [.int .i64 n]) p.1 ++ (fun _ : Unit => []) p.2) p.2) p.2) p.2) lo) (o := i * 4) (m := 4) (xs := [.int .i64 x54a, .string (bstr x54b), .slice a_x54c (List.length x54c) c_x54c, .int .i64 x54d]) En58 (by kernel_rfl) rfl (i_lo.ro.ev Hv44).reads had50 (fun j hj => ?_) rfl (by kernel_rfl) (by kernel_rfl) ?_
  ·
   exact flat_sub (sz := 4) (off := 0) (m := 4) (fun _ _ => rfl) hx53 (by decide) rfl j hj
  intro ac59 En60
  refine f_o ?_
  refine c_l [0,1,2,3,4] (M := [.box sb12 [.map (some mb13)] 52, .map mb13 (kvs FV.v m), .box bk25 [.slice ax (List.length xs) cx] 43, .vec ax cx 5 (List.flatMap fRF xs) 48, .grp D]) En60 Hv44 (fun hM61 => do_go _ sb12 mb13 bk25 m ax cx xs D hI x54a x54b a_x54c c_x54c x54c x54d (by assumption) (by assumption) ((i_x54c.ev Hv44).pick [0,1,2,3,4] (by kernel_rfl)) (by assumption) hM61) ?_
  rintro _ wo62 ⟨m2, xs2, D2, ay, cy, rfl, he63, hI2⟩
  refine ⟨_, _, [.box sb12 [.map (some mb13)] 52, .map mb13 (kvs FV.v m2), .box bk25 [.slice ay (List.length xs2) cy] 43, .vec ay cy 5 (List.flatMap fRF xs2) 48, .grp D2], rfl, he63, by kernel_rfl, fun ac65 En66 Hv67 => ?_⟩
  refine d_e [0,4,5,6,7] [] En66 fun ac68 En69 => ?_
  refine then_normal ?_
  refine wp_seq ?_
  refine region_from ?_
  refine d_k [0,4,5,6,7,37] [] 1 En69 fun ac70 En71 => ?_
  refine f_o ?_
  refine c_l [0,1] (M := [.box sb12 [.map (some mb13)] 52, .map mb13 (kvs FV.v m2)]) En71 Hv67 (fun hM72 => names_go _ sb12 mb13 m2 hI2.small (by rw [hI2.mlen]; exact hI2.len) hM72) ?_
  rintro _ wo73 ⟨an, cn, rfl, he74⟩
  refine ⟨_, _, [.box sb12 [.map (some mb13)] 52, .map mb13 (kvs FV.v m2), .vec an cn 1 (List.flatMap (fun l : List UInt8 => [.string (bstr l)]) (sortK m2)) 9, .box bk25 [.slice ay (List.length xs2) cy] 43, .vec ay cy 5 (List.flatMap fRF xs2) 48, .grp D2], rfl, he74, by kernel_rfl, fun ac76 En77 Hv78 => ?_⟩
  rw [hI2.names] at En77 Hv78
  refine d_e [0,4,5,6,7,8] [] En77 fun ac79 En80 => ?_
  refine then_normal ?_
  refine wp_seq ?_
  refine wp_seq ?_
  refine region_from ?_
  refine d_k [0,4,5,6,8,41,43,46] [] 8 En80 fun ac81 En82 => ?_
  refine f_o ?_
  refine m_l 3 En82 Hv78 fun ac83 En84 => ?_
  refine d_e [0,4,5,6,8,50] [(10, g_b (show (((List.length (List.map (fun x => x.1) xs2) : Nat) : Int) != ((List.length xs2 : Nat) : Int)) = false from (by rw [List.length_map]; exact bne_self_eq_false _)))] En84 fun ac85 En86 => ?_
  refine then_normal ?_
  refine c_f En86 ?_
  refine wp_skip ?_
  refine then_normal ?_
  refine wp_seq ?_
  refine d_r [0,4,5,6,8,9] [] En86 fun ac87 En88 => ?_
  refine then_normal ?_
  refine wp_block ?_
  refine loop_m (fun ms89 ac wo => ∃ (k : Nat), ms89 = (List.length (List.map (fun x => x.1) xs2) - k : Nat) ∧ Env ac 97 [(0, .slice a_lo (List.length lo) c_lo), (4, pt sb12), (5, pt bk25), (6, ni i), (8, .slice an (List.length (List.map (fun x => x.1) xs2)) cn), (9, ni k)] ∧ Ev w [] wo [.box sb12 [.map (some mb13)] 52, .map mb13 (kvs FV.v m2), .vec an cn 1 (List.flatMap (fun l : List UInt8 => [.string (bstr l)]) (List.map (fun x => x.1) xs2)) 9, .box bk25 [.slice ay (List.length xs2) cy] 43, .vec ay cy 5 (List.flatMap fRF xs2) 48, .grp D2] ∧ (k ≤ List.length (List.map (fun x => x.1) xs2))) ⟨_, 0, rfl, En88.sub (by kernel_rfl), Hv78.pick [0, 1, 2, 3, 4, 5] (by kernel_rfl) (by decide), (Nat.zero_le _)⟩ ?_
  rintro mm95 ac91 wo92 ⟨k, rfl, En93, Hv94, hkl⟩
  refine wp_seq ?_
  refine wp_seq ?_
  have hl64 := hI2.len
  have hln : List.length (List.map (fun x => x.1) xs2) = List.length xs2 := List.length_map _
  refine d_r [0,4,5,6,8,9,54] [] En93 fun ac96 En97 => ?_
  refine then_normal ?_
  refine c_d (((k : Nat) : Int) < ((List.length (List.map (fun x => x.1) xs2) : Nat) : Int)) En97 (fun hc98 => ?_) (fun hc98 => ?_)
  ·
   refine wp_skip ?_
   refine then_normal ?_
   refine wp_seq ?_
   refine wp_block ?_
   refine wp_seq ?_
   refine wp_seq ?_
   obtain ⟨nm1, aB, cB, lB, t1, aN, cN, lN, n1, hx⟩ : ∃ nm1 aB cB lB t1 aN cN lN n1, xs2[k]? = some ((nm1, ⟨aB, cB, lB⟩, t1, ⟨aN, cN, lN⟩, n1, ()) : RF) := ⟨_, _, _, _, _, _, _, _, _, List.getElem?_eq_getElem (by omega)⟩
   have hx2 : (List.map (fun x => x.1) xs2)[k]? = some nm1 := by rw [List.getElem?_map, hx]; rfl
   have hls2 : List.length lB ≤ 65536 ∧ List.length lN ≤ 65536 := ⟨(hI2.ok _ (List.mem_of_getElem? hx)).la, (hI2.ok _ (List.mem_of_getElem? hx)).lb⟩
   obtain ⟨adr99, had100⟩ := some_of (sv_nz (f := fRF) (sz := 5) Hv94.heap (k := 4) rfl (fun _ => rfl) (by decide)) (show k < List.length xs2 from by omega)
   obtain ⟨adr101, had102⟩ := some_of (sv_nz (f := (fun l : List UInt8 => [.string (bstr l)])) (sz := 1) Hv94.heap (k := 2) rfl (fun _ => rfl) (by decide)) (show k < List.length (List.map (fun x => x.1) xs2) from by omega)
   obtain ⟨hh, hxp⟩ := hI2.hitk hx
   have hnl9 : List.length nm1 ≤ 140737488351232 := nm_len2 (hI2.ok _ (List.mem_of_getElem? hx)).nm
   refine r_c (fun ac wo => Env ac 97 [(0, .slice a_lo (List.length lo) c_lo), (4, pt sb12), (5, pt bk25), (6, ni i), (8, .slice an (List.length (List.map (fun x => x.1) xs2)) cn), (9, ni k), (69, .bool false)] ∧ Ev w [] wo [.box sb12 [.map (some mb13)] 52, .map mb13 (kvs FV.v m2), .vec an cn 1 (List.flatMap (fun l : List UInt8 => [.string (bstr l)]) (List.map (fun x => x.1) xs2)) 9, .box bk25 [.slice ay (List.length xs2) cy] 43, .vec ay cy 5 (List.flatMap fRF xs2) 48, .grp D2]) ?_ ?_
   ·
    refine s_g0 [(0, .slice a_lo (List.length lo) c_lo), (4, pt sb12), (5, pt bk25), (6, ni i), (8, .slice an (List.length (List.map (fun x => x.1) xs2)) cn), (9, ni k)] [0,1,2,3,4,5,6,7,8,9,10,11,12] [(57, .slice an (List.length (List.map (fun x => x.1) xs2)) cn), (58, ni k), (59, .pointer (some (Addr.add adr101 k))), (60, .string (bstr nm1)), (61, pt bk25), (62, pt bk25), (63, pt bk25), (64, .slice ay (List.length xs2) cy), (65, ni k), (66, .pointer (some (Addr.add adr99 (k * 5)))), (67, .pointer (some (Addr.add adr99 (k * 5)))), (68, .string (bstr nm1)), (69, .bool false)] 0 [(0, .slice a_lo (List.length lo) c_lo), (4, pt sb12), (5, pt bk25), (6, ni i), (8, .slice an (List.length (List.map (fun x => x.1) xs2)) cn), (9, ni k), (69, .bool false)] (En97.sb) (Hv94.trans (Ev.drew Hv94.heap)) ?_ fun ac142 wo143 En144 Hv145 => ?_
    ·
     refine s_p [] ?_
     refine s_p [] ?_
     have hb105 : k < List.length (List.map (fun x => x.1) xs2) := (by omega)
     refine s_c (fun Mx106 ac107 wo108 En109 Hv110 => ?_) ?_
     ·
      refine q_v (x := Instr.indexAt 36 (.slice an (List.length (List.map (fun x => x.1) xs2)) cn) (ni k)) (v := .pointer (some (Addr.add adr101 k))) En109 (Go.Dbr.run_indexsl (e := 9) (sz := 1) (j := k) (jo := k) had102 (by kernel_rfl) (by kernel_rfl) (by omega) hb105 (Nat.mul_one _) _) fun ac111 En112 => ?_
      exact s_e En112 Hv110
     refine s_c (fun Mx113 ac114 wo115 En116 Hv117 => ?_) ?_
     ·
      refine op_loadf (d := some 60) (t := 9) (ad := adr101) (ao := an) (ys := List.flatMap (fun l : List UInt8 => [.string (bstr l)]) (List.map (fun x => x.1) xs2)) (o := k) (v := .string (bstr nm1)) En116 (by kernel_rfl) rfl (Hv117.heap.reads (k := 2) rfl) had102 ((flat_get1 (fun _ _ => rfl) hx2).trans rfl) (by kernel_rfl) ?_
      intro ac118 En119
      exact s_e En119 Hv117
     refine s_p [] ?_
     refine s_p [] ?_
     refine s_p [] ?_
     refine s_l 3 ?_
     refine s_p [] ?_
     have hb127 : k < List.length xs2 := (by omega)
     refine s_c (fun Mx128 ac129 wo130 En131 Hv132 => ?_) ?_
     ·
      refine q_v (x := Instr.indexAt 41 (.slice ay (List.length xs2) cy) (ni k)) (v := .pointer (some (Addr.add adr99 (k * 5)))) En131 (Go.Dbr.run_indexsl (e := 48) (sz := 5) (j := k) (jo := k * 5) had100 (by kernel_rfl) (by kernel_rfl) (by omega) hb127 rfl _) fun ac133 En134 => ?_
      exact s_e En134 Hv132
     refine s_p [] ?_
     refine s_c (fun Mx135 ac136 wo137 En138 Hv139 => ?_) ?_
     ·
      refine op_loadf (d := some 68) (t := 9) (ad := adr99) (ao := ay) (ys := List.flatMap fRF xs2) (o := k * 5) (v := .string (bstr nm1)) En138 (by kernel_rfl) rfl (Hv139.heap.reads (k := 4) rfl) had100 ((flat_get (sz := 5) (j := 0) (fun _ _ => rfl) hx (by decide)).trans rfl) (by kernel_rfl) ?_
      intro ac140 En141
      exact s_e En141 Hv139
     refine s_p [(12, g_v (show (.bool (!(ByteArray.toList (bstr nm1) == ByteArray.toList (bstr nm1))) : Value) = .bool false by rw [Go.Dbr.bstr_eq nm1 nm1, show (!(nm1 == nm1)) = false from (bne_s nm1)] <;> rfl))] ?_
     exact s_n
    exact a_e ⟨En144.sub (by kernel_rfl), Hv145.pick [0, 1, 2, 3, 4, 5] (by kernel_rfl) (by decide)⟩
   rintro ac146 wo147 ⟨En148, Hv149⟩
   refine then_normal ?_
   refine c_f En148 ?_
   refine wp_skip ?_
   refine then_normal ?_
   refine wp_seq ?_
   have hb152 : k < List.length (List.map (fun x => x.1) xs2) := (by omega)
   refine region_from ?_
   refine d_k [0,4,5,6,8,9,71,72,73] [] 3 En148 fun ac153 En154 => ?_
   refine f_o ?_
   refine q_v (x := Instr.indexAt 36 (.slice an (List.length (List.map (fun x => x.1) xs2)) cn) (ni k)) (v := .pointer (some (Addr.add adr101 k))) En154 (Go.Dbr.run_indexsl (e := 9) (sz := 1) (j := k) (jo := k) had102 (by kernel_rfl) (by kernel_rfl) (by omega) hb152 (Nat.mul_one _) _) fun ac155 En156 => ?_
   refine f_o ?_
   refine op_loadf (d := some 75) (t := 9) (ad := adr101) (ao := an) (ys := List.flatMap (fun l : List UInt8 => [.string (bstr l)]) (List.map (fun x => x.1) xs2)) (o := k) (v := .string (bstr nm1)) En156 (by kernel_rfl) rfl (Hv149.heap.reads (k := 2) rfl) had102 ((flat_get1 (fun _ _ => rfl) hx2).trans rfl) (by kernel_rfl) ?_
   intro ac157 En158
   refine f_o ?_
   obtain ⟨a0, n0, c0, b0, m0, d0, t0, k0, ho⟩ := rec_el m2 nm1
   obtain ⟨g1, g2, g3⟩ := hI2.recX hh hxp
   rw [ho] at g3
   have e1 : n0 = List.length lB := g3.n
   have e2 : m0 = List.length lN := g3.m
   have e3 : ((k0 : Nat) : Int) = n1 := g3.k
   have hk9 : k0 ≤ List.length lN := by have h : n1 ≤ (List.length lN : Int) := g2.k1; omega
   rw [e1, e2] at ho
   refine c_l [0,1] (M := [.box sb12 [.map (some mb13)] 52, .map mb13 (kvs FV.v m2)]) En158 Hv149 (fun hM161 => read_go _ sb12 mb13 m2 nm1 hnl9 (hI2.isS.trans hh) lB lN a0 c0 b0 d0 t0 k0 ho (Hv149.heap.innB (k := 5) (D := D2) (T := 5) rfl g3.a [0, 1] (by kernel_rfl) rfl (by omega)) (Hv149.heap.innB (k := 5) (D := D2) (T := 5) rfl g3.b [0, 1] (by kernel_rfl) rfl (by omega)) hls2.1 hls2.2 hk9 hM161) ?_
   rintro _ wo162 ⟨ao159, co160, rfl, he163⟩
   refine ⟨_, _, [.box sb12 [.map (some mb13)] 52, .map mb13 (kvs FV.v m2), .vec ao159 co160 1 (bys (rdL lB lN k0)) 5, .vec an cn 1 (List.flatMap (fun l : List UInt8 => [.string (bstr l)]) (List.map (fun x => x.1) xs2)) 9, .box bk25 [.slice ay (List.length xs2) cy] 43, .vec ay cy 5 (List.flatMap fRF xs2) 48, .grp D2], rfl, he163, by kernel_rfl, fun ac165 En166 Hv167 => ?_⟩
   refine d_e [0,4,5,6,8,9,10,11] [] En166 fun ac168 En169 => ?_
   refine then_normal ?_
   refine wp_seq ?_
   have hb172 : k < List.length (List.map (fun x => x.1) xs2) := (by omega)
   refine region_from ?_
   refine d_k [0,4,5,6,8,9,10,11,80,81,82] [] 3 En169 fun ac173 En174 => ?_
   refine f_o ?_
   refine q_v (x := Instr.indexAt 36 (.slice an (List.length (List.map (fun x => x.1) xs2)) cn) (ni k)) (v := .pointer (some (Addr.add adr101 k))) En174 (Go.Dbr.run_indexsl (e := 9) (sz := 1) (j := k) (jo := k) had102 (by kernel_rfl) (by kernel_rfl) (by omega) hb172 (Nat.mul_one _) _) fun ac175 En176 => ?_
   refine f_o ?_
   refine op_loadf (d := some 84) (t := 9) (ad := adr101) (ao := an) (ys := List.flatMap (fun l : List UInt8 => [.string (bstr l)]) (List.map (fun x => x.1) xs2)) (o := k) (v := .string (bstr nm1)) En176 (by kernel_rfl) rfl (Hv167.heap.reads (k := 3) rfl) had102 ((flat_get1 (fun _ _ => rfl) hx2).trans rfl) (by kernel_rfl) ?_
   intro ac177 En178
   refine f_o ?_
   refine c_l [4,5] (M := [.box bk25 [.slice ay (List.length xs2) cy] 43, .vec ay cy 5 (List.flatMap fRF xs2) 48]) En178 Hv167 (fun hM181 => rread_go _ bk25 ay cy xs2 hI2.len nm1 hnl9 hh nm1 aB cB lB t1 aN cN lN k0 (by rw [e3]; exact hxp) (Hv167.heap.innB (k := 6) (D := D2) (T := 5) rfl g2.a [4, 5] (by kernel_rfl) rfl (by omega)) (Hv167.heap.innB (k := 6) (D := D2) (T := 5) rfl g2.b [4, 5] (by kernel_rfl) rfl (by omega)) hls2.1 hls2.2 hk9 hM181) ?_
   rintro _ wo182 ⟨ao179, co180, rfl, he183⟩
   refine ⟨_, _, [.box bk25 [.slice ay (List.length xs2) cy] 43, .vec ay cy 5 (List.flatMap fRF xs2) 48, .vec ao179 co180 1 (bys (rdL lB lN k0)) 5, .box sb12 [.map (some mb13)] 52, .map mb13 (kvs FV.v m2), .vec ao159 co160 1 (bys (rdL lB lN k0)) 5, .vec an cn 1 (List.flatMap (fun l : List UInt8 => [.string (bstr l)]) (List.map (fun x => x.1) xs2)) 9, .grp D2], rfl, he183, by kernel_rfl, fun ac185 En186 Hv187 => ?_⟩
   refine d_e [0,4,5,6,8,9,10,11,12] [] En186 fun ac188 En189 => ?_
   refine then_normal ?_
   refine wp_seq ?_
   refine region_from ?_
   refine d_k [0,4,5,6,8,9,12,90,91] [] 4 En189 fun ac190 En191 => ?_
   refine f_o ?_
   refine op_str (d := some 92) (src := 22) (dst := 9) (e := 5) (ao := ao159) (cap := co160) (p := List.length (rdL lB lN k0)) (bs := rdL lB lN k0) En191 (by kernel_rfl) rfl (by kernel_rfl) (by kernel_rfl) (by kernel_rfl) (Hv187.heap.reads (k := 5) rfl) (bys_vnz Hv187.heap (k := 5) rfl) ?_
   intro ac192 En193
   refine d_k [0,4,5,6,8,9,90,92,93] [] 6 En193 fun ac194 En195 => ?_
   refine f_o ?_
   refine op_str (d := some 94) (src := 22) (dst := 9) (e := 5) (ao := ao179) (cap := co180) (p := List.length (rdL lB lN k0)) (bs := rdL lB lN k0) En195 (by kernel_rfl) rfl (by kernel_rfl) (by kernel_rfl) (by kernel_rfl) (Hv187.heap.reads (k := 2) rfl) (bys_vnz Hv187.heap (k := 2) rfl) ?_
   intro ac196 En197
   refine d_e [0,4,5,6,8,9,96] [(7, g_v (show (.bool (!(ByteArray.toList (bstr (rdL lB lN k0)) == ByteArray.toList (bstr (rdL lB lN k0)))) : Value) = .bool false by rw [Go.Dbr.bstr_eq (rdL lB lN k0) (rdL lB lN k0), show (!((rdL lB lN k0) == (rdL lB lN k0))) = false from (bne_s _)] <;> rfl))] En197 fun ac198 En199 => ?_
   refine then_normal ?_
   refine c_f En199 ?_
   refine wp_skip ?_
   refine block_normal ?_
   refine then_normal ?_
   refine d_r [0,4,5,6,8,9] [(1, g_n (w_a k 1))] En199 fun ac200 En201 => ?_
   refine then_normal ?_
   refine ⟨_, ⟨k + 1, rfl, En201.sub (by kernel_rfl), Hv187.pick [3, 4, 6, 0, 1, 7] (by kernel_rfl) (by decide), (by omega)⟩, ?_⟩
   omega
  ·
   refine wp_exit ?_
   refine then_exit ?_
   refine then_exit ?_
   refine block_exit ?_
   refine block_normal ?_
   refine then_normal ?_
   refine d_r [0,4,5,6,8,9] [(1, g_n (w_a i 1))] En97 fun ac202 En203 => ?_
   refine then_normal ?_
   refine ⟨_, ⟨i + 1, m2, xs2, D2, ay, cy, rfl, En203.sub (by kernel_rfl), Hv94.pick [0, 1, 3, 4, 5] (by kernel_rfl) (by decide), (by omega), hI2⟩, ?_⟩
   omega
 ·
  refine wp_exit ?_
  refine then_exit ?_
  refine then_exit ?_
  refine block_exit ?_
  refine then_normal ?_
  refine wp_seq ?_
  refine d_r [0,2,4,5,6] [] En47 fun ac204 En205 => ?_
  refine then_normal ?_
  refine wp_ret ?_
  refine d_ret1 (t := 2) (v := .bool true) En205 (by kernel_rfl) (by kernel_rfl) ?_
  exact ⟨rfl, Hv44.pick [] (by kernel_rfl) (by decide)⟩

end Go.Proofs.Ytfeibokonhdgnaa
