/- ChachaStreams: its walk. -/
import Derived.Test.YtnahplggflhdaaaC5
namespace Go.Proofs.Ytnahplggflhdaaa
open Go.Dbr
set_option maxRecDepth 100000
set_option maxHeartbeats 2000000
set_option linter.unusedVariables false
set_option linter.unusedSimpArgs false

theorem streams_walk (k : List UInt8) (c : UInt32) (n : List UInt8) (a_b : Option Addr) (c_b : Nat) (b : List UInt8) (w : World) (n_k : (List.length k = 32)) (n_n : (List.length n = 12)) (i_b : InB w [] a_b c_b b) : Calls Try.prog 3 #[.agg (List.toArray (bys k)), .int .u32 ((UInt32.toNat c : Nat) : Int), .agg (List.toArray (bys n)), .slice a_b (List.length b) c_b] w fun e w' => e = .returned (.bool true) ∧ Ev w [] w' [] := by
  have hs := i_b.small
  have hcb := i_b.cap
  have hsl := streamF_len k c n b
  have hsl2 := streamF_len k c n (streamF k c n b)
  refine d_start [(0, .agg (List.toArray (bys k))), (1, .int .u32 ((UInt32.toNat c : Nat) : Int)), (2, .agg (List.toArray (bys n))), (3, .slice a_b (List.length b) c_b)] 64 Go.Proofs.Try.func3 Go.Proofs.Try.ntmps3 rfl (by kernel_rfl) (by kernel_rfl) ?_
  intro act0 En0
  have Hv0 : Ev w [] w [] := Ev.refl (Heap.nil _)
  refine wp_seq ?_
  refine region_from ?_  -- region 0
  refine from_op (by kernel_rfl) ?_
  refine op_newbox (d := some 4) (T := 22) (v := .agg (List.toArray (bys k))) (cs := bys k) En0 (by kernel_rfl) rfl Hv0 ?_
  intro ac2 wo3 bk1 En4 Hv5
  refine from_op (by kernel_rfl) ?_
  refine op_newbox (d := some 6) (T := 24) (v := .agg (List.toArray (bys n))) (cs := bys n) En4 (by kernel_rfl) rfl Hv5 ?_
  intro ac7 wo8 bk6 En9 Hv10
  refine d_pures [(1, .int .u32 ((UInt32.toNat c : Nat) : Int)), (3, .slice a_b (List.length b) c_b), (4, .pointer (some ⟨bk1, 0, none⟩)), (6, .pointer (some ⟨bk6, 0, none⟩)), (8, .bool false)] [.bool false] 3 En9 (by kernel_rfl) (by kernel_rfl) rfl ?_
  intro ac11 En12
  refine from_end (by kernel_rfl) ?_
  refine then_normal ?_
  refine wp_seq ?_
  refine region_from ?_  -- region 1
  refine from_op (by kernel_rfl) ?_
  have hM13 : Heap wo8 [] := Hv10.heap.pick [] (by kernel_rfl) (by decide)
  refine op_call (d := some 13) (f := 8) (args := #[]) En12 (by kernel_rfl) ((head_ok _).mono ?_)
  rintro _ wo15 ⟨rfl, he18⟩
  refine ⟨_, rfl, ?_⟩
  intro ac14 En16
  have Hv17 : Ev w [] wo15 [.box bk1 (bys k) 22, .box bk6 (bys n) 24] := Hv10.trans (Ev.call (R := [.box bk1 (bys k) 22, .box bk6 (bys n) 24]) Hv10.heap [0, 1] (by kernel_rfl) (by decide) he18)
  clear hM13 he18
  refine d_pures [(1, .int .u32 ((UInt32.toNat c : Nat) : Int)), (3, .slice a_b (List.length b) c_b), (4, .pointer (some ⟨bk1, 0, none⟩)), (6, .pointer (some ⟨bk6, 0, none⟩)), (8, .bool false), (9, .bool true)] [.bool true] 2 En16 (by kernel_rfl) (by kernel_rfl) rfl ?_
  intro ac19 En20
  refine from_end (by kernel_rfl) ?_
  refine then_normal ?_
  refine wp_seq ?_
  refine region_from ?_  -- region 2
  refine from_op (by kernel_rfl) ?_
  refine op_lit (d := some 14) (t := 25) (T := 5) (m := 0) (parts := #[]) (xs := bys []) (sz := 1) En20 (by kernel_rfl) (by kernel_rfl) rfl (by decide) Hv17 ?_
  intro ac22 wo23 bk21 En24 Hv25
  refine d_pures [(1, .int .u32 ((UInt32.toNat c : Nat) : Int)), (3, .slice a_b (List.length b) c_b), (4, .pointer (some ⟨bk1, 0, none⟩)), (6, .pointer (some ⟨bk6, 0, none⟩)), (8, .bool false), (9, .bool true), (14, .slice (some ⟨bk21, 0, none⟩) 0 0), (15, .slice a_b (List.length b) c_b)] [.slice a_b (List.length b) c_b] 2 En24 (by kernel_rfl) (by kernel_rfl) rfl ?_
  intro ac26 En27
  refine from_op (by kernel_rfl) ?_
  have hsm28 := i_b.small
  refine op_append (d := some 16) (t := 25) (tx := 25) (ty := 25) (k := 2) (p := 0) (m := List.length b) (x := .slice a_b (List.length b) c_b) (bytes := 1) En27 (by kernel_rfl) Hv25 rfl rfl (Reads.src (size := 1) (tx := 25) (e' := 5) (by kernel_rfl) (i_b.ev Hv25).reads (bys_len _) i_b.nz (bys_one _)) (by kernel_rfl) (z := .int .u8 0) (by kernel_rfl) rfl (by decide) (by omega) (by unfold maxLen; omega) ?_
  intro ac33 wo34 ao29 cp30 En35 Hv36 _ _
  rw [bys_nil_append] at Hv36
  have ehz31 : 0 + (List.length b) = List.length b := (by first | (simp; done) | (simp; omega) | omega)
  rw [ehz31] at En35
  refine d_pures [(1, .int .u32 ((UInt32.toNat c : Nat) : Int)), (3, .slice a_b (List.length b) c_b), (4, .pointer (some ⟨bk1, 0, none⟩)), (6, .pointer (some ⟨bk6, 0, none⟩)), (8, .bool false), (9, .bool true), (10, .slice ao29 (List.length b) cp30)] [.slice ao29 (List.length b) cp30] 4 En35 (by kernel_rfl) (by kernel_rfl) rfl ?_
  intro ac37 En38
  refine from_end (by kernel_rfl) ?_
  refine then_normal ?_
  refine wp_seq ?_
  refine region_from ?_  -- region 3
  refine from_op (by kernel_rfl) ?_
  refine op_loadaggbox (d := some 17) (t := 22) (b := bk1) (off := 0) (k := 0) (m := 32) (xs := bys k) En38 (by kernel_rfl) Hv36 rfl (load_whole (bys_lenh n_k)) (bys_lenh n_k) (by kernel_rfl) (by kernel_rfl) ?_
  intro ac39 En40
  refine d_pures [(1, .int .u32 ((UInt32.toNat c : Nat) : Int)), (3, .slice a_b (List.length b) c_b), (4, .pointer (some ⟨bk1, 0, none⟩)), (6, .pointer (some ⟨bk6, 0, none⟩)), (8, .bool false), (9, .bool true), (10, .slice ao29 (List.length b) cp30), (17, .agg (List.toArray (bys k))), (18, .int .u32 ((UInt32.toNat c : Nat) : Int))] [.int .u32 ((UInt32.toNat c : Nat) : Int)] 2 En40 (by kernel_rfl) (by kernel_rfl) rfl ?_
  intro ac41 En42
  refine from_op (by kernel_rfl) ?_
  refine op_loadaggbox (d := some 19) (t := 24) (b := bk6) (off := 0) (k := 1) (m := 12) (xs := bys n) En42 (by kernel_rfl) Hv36 rfl (load_whole (bys_lenh n_n)) (bys_lenh n_n) (by kernel_rfl) (by kernel_rfl) ?_
  intro ac43 En44
  refine d_pures [(1, .int .u32 ((UInt32.toNat c : Nat) : Int)), (3, .slice a_b (List.length b) c_b), (4, .pointer (some ⟨bk1, 0, none⟩)), (6, .pointer (some ⟨bk6, 0, none⟩)), (8, .bool false), (9, .bool true), (10, .slice ao29 (List.length b) cp30), (17, .agg (List.toArray (bys k))), (18, .int .u32 ((UInt32.toNat c : Nat) : Int)), (19, .agg (List.toArray (bys n))), (20, .slice ao29 (List.length b) cp30)] [.slice ao29 (List.length b) cp30] 4 En44 (by kernel_rfl) (by kernel_rfl) rfl ?_
  intro ac45 En46
  refine from_op (by kernel_rfl) ?_
  have hM48 : Heap wo34 [] := Hv36.heap.pick [] (by kernel_rfl) (by decide)
  refine op_call (d := some 21) (f := 9) (args := #[.agg (List.toArray (bys k)), .int .u32 ((UInt32.toNat c : Nat) : Int), .agg (List.toArray (bys n)), .slice ao29 (List.length b) cp30]) En46 (by kernel_rfl) ((stream_go _ k n_k c n n_n ao29 (List.length b) cp30 b (by first | rfl | (simp; done) | (simp; omega) | omega) (bys_in Hv36.heap (k := 2) rfl [] (by kernel_rfl) rfl (by first | omega | (simp; done) | (simp; omega)))).mono ?_)
  rintro _ wo50 ⟨aoq47, coq47, rfl, he53⟩
  refine ⟨_, rfl, ?_⟩
  intro ac49 En51
  have Hv52 : Ev w [] wo50 [.vec aoq47 coq47 1 (bys (streamF k c n b)) 5, .box bk1 (bys k) 22, .box bk6 (bys n) 24, .vec ao29 cp30 1 (bys b) 5] := Hv36.trans (Ev.call (R := [.box bk1 (bys k) 22, .box bk6 (bys n) 24, .vec ao29 cp30 1 (bys b) 5]) Hv36.heap [0, 1, 2] (by kernel_rfl) (by decide) he53)
  clear hM48 he53
  refine d_pures [(1, .int .u32 ((UInt32.toNat c : Nat) : Int)), (3, .slice a_b (List.length b) c_b), (4, .pointer (some ⟨bk1, 0, none⟩)), (6, .pointer (some ⟨bk6, 0, none⟩)), (8, .bool false), (9, .bool true), (10, .slice ao29 (List.length b) cp30), (11, .slice aoq47 (List.length (streamF k c n b)) coq47)] [.slice aoq47 (List.length (streamF k c n b)) coq47] 6 En51 (by kernel_rfl) (by kernel_rfl) rfl ?_
  intro ac54 En55
  refine from_end (by kernel_rfl) ?_
  refine then_normal ?_
  refine wp_seq ?_
  refine region_cut (F := fun ac wo => Env ac 64 [(1, .int .u32 ((UInt32.toNat c : Nat) : Int)), (3, .slice a_b (List.length b) c_b), (4, .pointer (some ⟨bk1, 0, none⟩)), (6, .pointer (some ⟨bk6, 0, none⟩)), (8, .bool false), (9, .bool true), (10, .slice ao29 (List.length b) cp30), (11, .slice aoq47 (List.length (streamF k c n b)) coq47), (12, .bool true)] ∧ Ev w [] wo [.vec aoq47 coq47 1 (bys (streamF k c n b)) 5, .box bk1 (bys k) 22, .box bk6 (bys n) 24, .vec ao29 cp30 1 (bys b) 5]) ?_ ?_
  ·
    refine draw_any (by kernel_rfl) 10 (by kernel_rfl) ?_  -- region 4
    have wo56 := Hv52.trans (Ev.drew Hv52.heap)
    refine any_name fun G hG => ?_
    have nd149 : ∀ (ac : Act) (wo : World) (aoq120 : _) (coq120 : _), Env ac 64 [(1, .int .u32 ((UInt32.toNat c : Nat) : Int)), (3, .slice a_b (List.length b) c_b), (4, .pointer (some ⟨bk1, 0, none⟩)), (6, .pointer (some ⟨bk6, 0, none⟩)), (8, .bool false), (9, .bool true), (10, .slice ao29 (List.length b) cp30), (11, .slice aoq47 (List.length (streamF k c n b)) coq47), (23, .string (bstr (streamF k c n b))), (28, .slice aoq120 (List.length (streamF k c n b)) coq120)] → Ev w [] wo [.vec aoq120 coq120 1 (bys (streamF k c n b)) 5, .vec aoq47 coq47 1 (bys (streamF k c n b)) 5, .box bk1 (bys k) 22, .box bk6 (bys n) 24, .vec ao29 cp30 1 (bys b) 5] → G 3 #[true, true, true, true, true, true, true, false, false, false] ac wo := by
      intro ac150 wo151 aoq120 coq120 En152 Hv153
      refine any_from hG ?_
      refine any_at 7 (by kernel_rfl) rfl ?_
      refine op_str (d := some 29) (src := 25) (dst := 9) (e := 5) (ao := aoq120) (cap := coq120) (p := List.length (streamF k c n b)) (bs := streamF k c n b) En152 (by kernel_rfl) rfl (by kernel_rfl) (by kernel_rfl) (by kernel_rfl) (Hv153.heap.reads (k := 0) rfl) (bys_vnz Hv153.heap (k := 0) rfl) ?_
      intro ac154 En155
      refine any_pureR (d := some 30) En155 (v := .bool (ByteArray.toList (bstr (streamF k c n b)) == ByteArray.toList (bstr (streamF k c n b)))) 8 (by kernel_rfl) (by kernel_rfl) rfl ?_
      intro ac156 En157
      rw [Go.Dbr.bstr_eq (streamF k c n b) (streamF k c n b), show ((streamF k c n b) == (streamF k c n b)) = true from (by simp)] at En157
      refine any_pureR (d := some 12) En157 (v := .bool true) 9 (by kernel_rfl) (by kernel_rfl) rfl ?_
      intro ac158 En159
      exact any_end (by kernel_rfl) ⟨En159.sub (by kernel_rfl), Hv153.pick [1, 2, 3, 4] (by kernel_rfl) (by decide)⟩
    have nd160 : ∀ (ac : Act) (wo : World), Env ac 64 [(1, .int .u32 ((UInt32.toNat c : Nat) : Int)), (3, .slice a_b (List.length b) c_b), (4, .pointer (some ⟨bk1, 0, none⟩)), (6, .pointer (some ⟨bk6, 0, none⟩)), (8, .bool false), (9, .bool true), (10, .slice ao29 (List.length b) cp30), (11, .slice aoq47 (List.length (streamF k c n b)) coq47), (22, .slice aoq47 (List.length (streamF k c n b)) coq47), (29, .string (bstr (streamF k c n b)))] → Ev w [] wo [.vec aoq47 coq47 1 (bys (streamF k c n b)) 5, .box bk1 (bys k) 22, .box bk6 (bys n) 24, .vec ao29 cp30 1 (bys b) 5] → G 3 #[true, false, true, true, true, true, true, true, false, false] ac wo := by
      intro ac161 wo162 En163 Hv164
      refine any_from hG ?_
      refine any_at 1 (by kernel_rfl) rfl ?_
      refine op_str (d := some 23) (src := 25) (dst := 9) (e := 5) (ao := aoq47) (cap := coq47) (p := List.length (streamF k c n b)) (bs := streamF k c n b) En163 (by kernel_rfl) rfl (by kernel_rfl) (by kernel_rfl) (by kernel_rfl) (Hv164.heap.reads (k := 0) rfl) (bys_vnz Hv164.heap (k := 0) rfl) ?_
      intro ac165 En166
      refine any_pureR (d := some 30) En166 (v := .bool (ByteArray.toList (bstr (streamF k c n b)) == ByteArray.toList (bstr (streamF k c n b)))) 8 (by kernel_rfl) (by kernel_rfl) rfl ?_
      intro ac167 En168
      rw [Go.Dbr.bstr_eq (streamF k c n b) (streamF k c n b), show ((streamF k c n b) == (streamF k c n b)) = true from (by simp)] at En168
      refine any_pureR (d := some 12) En168 (v := .bool true) 9 (by kernel_rfl) (by kernel_rfl) rfl ?_
      intro ac169 En170
      exact any_end (by kernel_rfl) ⟨En170.sub (by kernel_rfl), Hv164.pick [0, 1, 2, 3] (by kernel_rfl) (by decide)⟩
    have nd171 : ∀ (ac : Act) (wo : World), Env ac 64 [(1, .int .u32 ((UInt32.toNat c : Nat) : Int)), (3, .slice a_b (List.length b) c_b), (4, .pointer (some ⟨bk1, 0, none⟩)), (6, .pointer (some ⟨bk6, 0, none⟩)), (8, .bool false), (9, .bool true), (10, .slice ao29 (List.length b) cp30), (11, .slice aoq47 (List.length (streamF k c n b)) coq47), (23, .string (bstr (streamF k c n b))), (24, .agg (List.toArray (bys k))), (25, .int .u32 ((UInt32.toNat c : Nat) : Int)), (26, .agg (List.toArray (bys n))), (27, .slice a_b (List.length b) c_b)] → Ev w [] wo [.vec aoq47 coq47 1 (bys (streamF k c n b)) 5, .box bk1 (bys k) 22, .box bk6 (bys n) 24, .vec ao29 cp30 1 (bys b) 5] → G 4 #[true, true, true, true, true, true, false, false, false, false] ac wo := by
      intro ac172 wo173 En174 Hv175
      refine any_from hG ?_
      refine any_at 6 (by kernel_rfl) rfl ?_
      have hM177 : Heap wo173 [] := Hv175.heap.pick [] (by kernel_rfl) (by decide)
      refine op_call (d := some 28) (f := 10) (args := #[.agg (List.toArray (bys k)), .int .u32 ((UInt32.toNat c : Nat) : Int), .agg (List.toArray (bys n)), .slice a_b (List.length b) c_b]) En174 (by kernel_rfl) ((stream_ref _ k n_k c n n_n a_b (List.length b) c_b b (by first | rfl | (simp; done) | (simp; omega) | omega) ((i_b.ev Hv175).pick [] (by kernel_rfl))).mono ?_)
      rintro _ wo179 ⟨aoq176, coq176, rfl, he182⟩
      refine ⟨_, rfl, ?_⟩
      intro ac178 En180
      have Hv181 : Ev w [] wo179 [.vec aoq176 coq176 1 (bys (streamF k c n b)) 5, .vec aoq47 coq47 1 (bys (streamF k c n b)) 5, .box bk1 (bys k) 22, .box bk6 (bys n) 24, .vec ao29 cp30 1 (bys b) 5] := Hv175.trans (Ev.call (R := [.vec aoq47 coq47 1 (bys (streamF k c n b)) 5, .box bk1 (bys k) 22, .box bk6 (bys n) 24, .vec ao29 cp30 1 (bys b) 5]) Hv175.heap [0, 1, 2, 3] (by kernel_rfl) (by decide) he182)
      clear hM177 he182
      refine any_at 7 (by kernel_rfl) rfl ?_
      refine op_str (d := some 29) (src := 25) (dst := 9) (e := 5) (ao := aoq176) (cap := coq176) (p := List.length (streamF k c n b)) (bs := streamF k c n b) En180 (by kernel_rfl) rfl (by kernel_rfl) (by kernel_rfl) (by kernel_rfl) (Hv181.heap.reads (k := 0) rfl) (bys_vnz Hv181.heap (k := 0) rfl) ?_
      intro ac183 En184
      refine any_pureR (d := some 30) En184 (v := .bool (ByteArray.toList (bstr (streamF k c n b)) == ByteArray.toList (bstr (streamF k c n b)))) 8 (by kernel_rfl) (by kernel_rfl) rfl ?_
      intro ac185 En186
      rw [Go.Dbr.bstr_eq (streamF k c n b) (streamF k c n b), show ((streamF k c n b) == (streamF k c n b)) = true from (by simp)] at En186
      refine any_pureR (d := some 12) En186 (v := .bool true) 9 (by kernel_rfl) (by kernel_rfl) rfl ?_
      intro ac187 En188
      exact any_end (by kernel_rfl) ⟨En188.sub (by kernel_rfl), Hv181.pick [1, 2, 3, 4] (by kernel_rfl) (by decide)⟩
    have nd189 : ∀ (ac : Act) (wo : World) (aoq120 : _) (coq120 : _), Env ac 64 [(1, .int .u32 ((UInt32.toNat c : Nat) : Int)), (3, .slice a_b (List.length b) c_b), (4, .pointer (some ⟨bk1, 0, none⟩)), (6, .pointer (some ⟨bk6, 0, none⟩)), (8, .bool false), (9, .bool true), (10, .slice ao29 (List.length b) cp30), (11, .slice aoq47 (List.length (streamF k c n b)) coq47), (22, .slice aoq47 (List.length (streamF k c n b)) coq47), (28, .slice aoq120 (List.length (streamF k c n b)) coq120)] → Ev w [] wo [.vec aoq120 coq120 1 (bys (streamF k c n b)) 5, .vec aoq47 coq47 1 (bys (streamF k c n b)) 5, .box bk1 (bys k) 22, .box bk6 (bys n) 24, .vec ao29 cp30 1 (bys b) 5] → G 4 #[true, false, true, true, true, true, true, false, false, false] ac wo := by
      intro ac190 wo191 aoq120 coq120 En192 Hv193
      refine any_from hG ?_
      refine any_two 1 7 (by kernel_rfl) ?_ ?_
      · rintro _ rfl
        refine op_str (d := some 23) (src := 25) (dst := 9) (e := 5) (ao := aoq47) (cap := coq47) (p := List.length (streamF k c n b)) (bs := streamF k c n b) En192 (by kernel_rfl) rfl (by kernel_rfl) (by kernel_rfl) (by kernel_rfl) (Hv193.heap.reads (k := 1) rfl) (bys_vnz Hv193.heap (k := 1) rfl) ?_
        intro ac194 En195
        exact any_to hG (by kernel_rfl) (nd149 _ _ aoq120 coq120 (En195.sub (by kernel_rfl)) (Hv193.pick [0, 1, 2, 3, 4] (by kernel_rfl) (by decide)))
      · rintro _ rfl
        refine op_str (d := some 29) (src := 25) (dst := 9) (e := 5) (ao := aoq120) (cap := coq120) (p := List.length (streamF k c n b)) (bs := streamF k c n b) En192 (by kernel_rfl) rfl (by kernel_rfl) (by kernel_rfl) (by kernel_rfl) (Hv193.heap.reads (k := 0) rfl) (bys_vnz Hv193.heap (k := 0) rfl) ?_
        intro ac196 En197
        exact any_to hG (by kernel_rfl) (nd160 _ _ (En197.sub (by kernel_rfl)) (Hv193.pick [1, 2, 3, 4] (by kernel_rfl) (by decide)))
    have nd198 : ∀ (ac : Act) (wo : World), Env ac 64 [(1, .int .u32 ((UInt32.toNat c : Nat) : Int)), (3, .slice a_b (List.length b) c_b), (4, .pointer (some ⟨bk1, 0, none⟩)), (6, .pointer (some ⟨bk6, 0, none⟩)), (8, .bool false), (9, .bool true), (10, .slice ao29 (List.length b) cp30), (11, .slice aoq47 (List.length (streamF k c n b)) coq47), (23, .string (bstr (streamF k c n b))), (24, .agg (List.toArray (bys k))), (25, .int .u32 ((UInt32.toNat c : Nat) : Int)), (27, .slice a_b (List.length b) c_b)] → Ev w [] wo [.vec aoq47 coq47 1 (bys (streamF k c n b)) 5, .box bk1 (bys k) 22, .box bk6 (bys n) 24, .vec ao29 cp30 1 (bys b) 5] → G 5 #[true, true, true, true, false, true, false, false, false, false] ac wo := by
      intro ac199 wo200 En201 Hv202
      refine any_from hG ?_
      refine any_at 4 (by kernel_rfl) rfl ?_
      refine op_loadaggbox (d := some 26) (t := 24) (b := bk6) (off := 0) (k := 2) (m := 12) (xs := bys n) En201 (by kernel_rfl) Hv202 rfl (load_whole (bys_lenh n_n)) (bys_lenh n_n) (by kernel_rfl) (by kernel_rfl) ?_
      intro ac203 En204
      refine any_at 6 (by kernel_rfl) rfl ?_
      have hM206 : Heap wo200 [] := Hv202.heap.pick [] (by kernel_rfl) (by decide)
      refine op_call (d := some 28) (f := 10) (args := #[.agg (List.toArray (bys k)), .int .u32 ((UInt32.toNat c : Nat) : Int), .agg (List.toArray (bys n)), .slice a_b (List.length b) c_b]) En204 (by kernel_rfl) ((stream_ref _ k n_k c n n_n a_b (List.length b) c_b b (by first | rfl | (simp; done) | (simp; omega) | omega) ((i_b.ev Hv202).pick [] (by kernel_rfl))).mono ?_)
      rintro _ wo208 ⟨aoq205, coq205, rfl, he211⟩
      refine ⟨_, rfl, ?_⟩
      intro ac207 En209
      have Hv210 : Ev w [] wo208 [.vec aoq205 coq205 1 (bys (streamF k c n b)) 5, .vec aoq47 coq47 1 (bys (streamF k c n b)) 5, .box bk1 (bys k) 22, .box bk6 (bys n) 24, .vec ao29 cp30 1 (bys b) 5] := Hv202.trans (Ev.call (R := [.vec aoq47 coq47 1 (bys (streamF k c n b)) 5, .box bk1 (bys k) 22, .box bk6 (bys n) 24, .vec ao29 cp30 1 (bys b) 5]) Hv202.heap [0, 1, 2, 3] (by kernel_rfl) (by decide) he211)
      clear hM206 he211
      refine any_at 7 (by kernel_rfl) rfl ?_
      refine op_str (d := some 29) (src := 25) (dst := 9) (e := 5) (ao := aoq205) (cap := coq205) (p := List.length (streamF k c n b)) (bs := streamF k c n b) En209 (by kernel_rfl) rfl (by kernel_rfl) (by kernel_rfl) (by kernel_rfl) (Hv210.heap.reads (k := 0) rfl) (bys_vnz Hv210.heap (k := 0) rfl) ?_
      intro ac212 En213
      refine any_pureR (d := some 30) En213 (v := .bool (ByteArray.toList (bstr (streamF k c n b)) == ByteArray.toList (bstr (streamF k c n b)))) 8 (by kernel_rfl) (by kernel_rfl) rfl ?_
      intro ac214 En215
      rw [Go.Dbr.bstr_eq (streamF k c n b) (streamF k c n b), show ((streamF k c n b) == (streamF k c n b)) = true from (by simp)] at En215
      refine any_pureR (d := some 12) En215 (v := .bool true) 9 (by kernel_rfl) (by kernel_rfl) rfl ?_
      intro ac216 En217
      exact any_end (by kernel_rfl) ⟨En217.sub (by kernel_rfl), Hv210.pick [1, 2, 3, 4] (by kernel_rfl) (by decide)⟩
    have nd218 : ∀ (ac : Act) (wo : World), Env ac 64 [(1, .int .u32 ((UInt32.toNat c : Nat) : Int)), (3, .slice a_b (List.length b) c_b), (4, .pointer (some ⟨bk1, 0, none⟩)), (6, .pointer (some ⟨bk6, 0, none⟩)), (8, .bool false), (9, .bool true), (10, .slice ao29 (List.length b) cp30), (11, .slice aoq47 (List.length (streamF k c n b)) coq47), (23, .string (bstr (streamF k c n b))), (25, .int .u32 ((UInt32.toNat c : Nat) : Int)), (26, .agg (List.toArray (bys n))), (27, .slice a_b (List.length b) c_b)] → Ev w [] wo [.vec aoq47 coq47 1 (bys (streamF k c n b)) 5, .box bk1 (bys k) 22, .box bk6 (bys n) 24, .vec ao29 cp30 1 (bys b) 5] → G 5 #[true, true, false, true, true, true, false, false, false, false] ac wo := by
      intro ac219 wo220 En221 Hv222
      refine any_from hG ?_
      refine any_at 2 (by kernel_rfl) rfl ?_
      refine op_loadaggbox (d := some 24) (t := 22) (b := bk1) (off := 0) (k := 1) (m := 32) (xs := bys k) En221 (by kernel_rfl) Hv222 rfl (load_whole (bys_lenh n_k)) (bys_lenh n_k) (by kernel_rfl) (by kernel_rfl) ?_
      intro ac223 En224
      refine any_at 6 (by kernel_rfl) rfl ?_
      have hM226 : Heap wo220 [] := Hv222.heap.pick [] (by kernel_rfl) (by decide)
      refine op_call (d := some 28) (f := 10) (args := #[.agg (List.toArray (bys k)), .int .u32 ((UInt32.toNat c : Nat) : Int), .agg (List.toArray (bys n)), .slice a_b (List.length b) c_b]) En224 (by kernel_rfl) ((stream_ref _ k n_k c n n_n a_b (List.length b) c_b b (by first | rfl | (simp; done) | (simp; omega) | omega) ((i_b.ev Hv222).pick [] (by kernel_rfl))).mono ?_)
      rintro _ wo228 ⟨aoq225, coq225, rfl, he231⟩
      refine ⟨_, rfl, ?_⟩
      intro ac227 En229
      have Hv230 : Ev w [] wo228 [.vec aoq225 coq225 1 (bys (streamF k c n b)) 5, .vec aoq47 coq47 1 (bys (streamF k c n b)) 5, .box bk1 (bys k) 22, .box bk6 (bys n) 24, .vec ao29 cp30 1 (bys b) 5] := Hv222.trans (Ev.call (R := [.vec aoq47 coq47 1 (bys (streamF k c n b)) 5, .box bk1 (bys k) 22, .box bk6 (bys n) 24, .vec ao29 cp30 1 (bys b) 5]) Hv222.heap [0, 1, 2, 3] (by kernel_rfl) (by decide) he231)
      clear hM226 he231
      refine any_at 7 (by kernel_rfl) rfl ?_
      refine op_str (d := some 29) (src := 25) (dst := 9) (e := 5) (ao := aoq225) (cap := coq225) (p := List.length (streamF k c n b)) (bs := streamF k c n b) En229 (by kernel_rfl) rfl (by kernel_rfl) (by kernel_rfl) (by kernel_rfl) (Hv230.heap.reads (k := 0) rfl) (bys_vnz Hv230.heap (k := 0) rfl) ?_
      intro ac232 En233
      refine any_pureR (d := some 30) En233 (v := .bool (ByteArray.toList (bstr (streamF k c n b)) == ByteArray.toList (bstr (streamF k c n b)))) 8 (by kernel_rfl) (by kernel_rfl) rfl ?_
      intro ac234 En235
      rw [Go.Dbr.bstr_eq (streamF k c n b) (streamF k c n b), show ((streamF k c n b) == (streamF k c n b)) = true from (by simp)] at En235
      refine any_pureR (d := some 12) En235 (v := .bool true) 9 (by kernel_rfl) (by kernel_rfl) rfl ?_
      intro ac236 En237
      exact any_end (by kernel_rfl) ⟨En237.sub (by kernel_rfl), Hv230.pick [1, 2, 3, 4] (by kernel_rfl) (by decide)⟩
    have nd238 : ∀ (ac : Act) (wo : World), Env ac 64 [(1, .int .u32 ((UInt32.toNat c : Nat) : Int)), (3, .slice a_b (List.length b) c_b), (4, .pointer (some ⟨bk1, 0, none⟩)), (6, .pointer (some ⟨bk6, 0, none⟩)), (8, .bool false), (9, .bool true), (10, .slice ao29 (List.length b) cp30), (11, .slice aoq47 (List.length (streamF k c n b)) coq47), (22, .slice aoq47 (List.length (streamF k c n b)) coq47), (24, .agg (List.toArray (bys k))), (25, .int .u32 ((UInt32.toNat c : Nat) : Int)), (26, .agg (List.toArray (bys n))), (27, .slice a_b (List.length b) c_b)] → Ev w [] wo [.vec aoq47 coq47 1 (bys (streamF k c n b)) 5, .box bk1 (bys k) 22, .box bk6 (bys n) 24, .vec ao29 cp30 1 (bys b) 5] → G 5 #[true, false, true, true, true, true, false, false, false, false] ac wo := by
      intro ac239 wo240 En241 Hv242
      refine any_from hG ?_
      refine any_two 1 6 (by kernel_rfl) ?_ ?_
      · rintro _ rfl
        refine op_str (d := some 23) (src := 25) (dst := 9) (e := 5) (ao := aoq47) (cap := coq47) (p := List.length (streamF k c n b)) (bs := streamF k c n b) En241 (by kernel_rfl) rfl (by kernel_rfl) (by kernel_rfl) (by kernel_rfl) (Hv242.heap.reads (k := 0) rfl) (bys_vnz Hv242.heap (k := 0) rfl) ?_
        intro ac243 En244
        exact any_to hG (by kernel_rfl) (nd171 _ _ (En244.sub (by kernel_rfl)) (Hv242.pick [0, 1, 2, 3] (by kernel_rfl) (by decide)))
      · rintro _ rfl
        have hM246 : Heap wo240 [] := Hv242.heap.pick [] (by kernel_rfl) (by decide)
        refine op_call (d := some 28) (f := 10) (args := #[.agg (List.toArray (bys k)), .int .u32 ((UInt32.toNat c : Nat) : Int), .agg (List.toArray (bys n)), .slice a_b (List.length b) c_b]) En241 (by kernel_rfl) ((stream_ref _ k n_k c n n_n a_b (List.length b) c_b b (by first | rfl | (simp; done) | (simp; omega) | omega) ((i_b.ev Hv242).pick [] (by kernel_rfl))).mono ?_)
        rintro _ wo248 ⟨aoq245, coq245, rfl, he251⟩
        refine ⟨_, rfl, ?_⟩
        intro ac247 En249
        have Hv250 : Ev w [] wo248 [.vec aoq245 coq245 1 (bys (streamF k c n b)) 5, .vec aoq47 coq47 1 (bys (streamF k c n b)) 5, .box bk1 (bys k) 22, .box bk6 (bys n) 24, .vec ao29 cp30 1 (bys b) 5] := Hv242.trans (Ev.call (R := [.vec aoq47 coq47 1 (bys (streamF k c n b)) 5, .box bk1 (bys k) 22, .box bk6 (bys n) 24, .vec ao29 cp30 1 (bys b) 5]) Hv242.heap [0, 1, 2, 3] (by kernel_rfl) (by decide) he251)
        clear hM246 he251
        exact any_to hG (by kernel_rfl) (nd189 _ _ aoq245 coq245 (En249.sub (by kernel_rfl)) (Hv250.pick [0, 1, 2, 3, 4] (by kernel_rfl) (by decide)))
    have nd252 : ∀ (ac : Act) (wo : World), Env ac 64 [(1, .int .u32 ((UInt32.toNat c : Nat) : Int)), (3, .slice a_b (List.length b) c_b), (4, .pointer (some ⟨bk1, 0, none⟩)), (6, .pointer (some ⟨bk6, 0, none⟩)), (8, .bool false), (9, .bool true), (10, .slice ao29 (List.length b) cp30), (11, .slice aoq47 (List.length (streamF k c n b)) coq47), (23, .string (bstr (streamF k c n b))), (25, .int .u32 ((UInt32.toNat c : Nat) : Int)), (27, .slice a_b (List.length b) c_b)] → Ev w [] wo [.vec aoq47 coq47 1 (bys (streamF k c n b)) 5, .box bk1 (bys k) 22, .box bk6 (bys n) 24, .vec ao29 cp30 1 (bys b) 5] → G 6 #[true, true, false, true, false, true, false, false, false, false] ac wo := by
      intro ac253 wo254 En255 Hv256
      refine any_from hG ?_
      refine any_two 2 4 (by kernel_rfl) ?_ ?_
      · rintro _ rfl
        refine op_loadaggbox (d := some 24) (t := 22) (b := bk1) (off := 0) (k := 1) (m := 32) (xs := bys k) En255 (by kernel_rfl) Hv256 rfl (load_whole (bys_lenh n_k)) (bys_lenh n_k) (by kernel_rfl) (by kernel_rfl) ?_
        intro ac257 En258
        exact any_to hG (by kernel_rfl) (nd198 _ _ (En258.sub (by kernel_rfl)) (Hv256.pick [0, 1, 2, 3] (by kernel_rfl) (by decide)))
      · rintro _ rfl
        refine op_loadaggbox (d := some 26) (t := 24) (b := bk6) (off := 0) (k := 2) (m := 12) (xs := bys n) En255 (by kernel_rfl) Hv256 rfl (load_whole (bys_lenh n_n)) (bys_lenh n_n) (by kernel_rfl) (by kernel_rfl) ?_
        intro ac259 En260
        exact any_to hG (by kernel_rfl) (nd218 _ _ (En260.sub (by kernel_rfl)) (Hv256.pick [0, 1, 2, 3] (by kernel_rfl) (by decide)))
    have nd261 : ∀ (ac : Act) (wo : World), Env ac 64 [(1, .int .u32 ((UInt32.toNat c : Nat) : Int)), (3, .slice a_b (List.length b) c_b), (4, .pointer (some ⟨bk1, 0, none⟩)), (6, .pointer (some ⟨bk6, 0, none⟩)), (8, .bool false), (9, .bool true), (10, .slice ao29 (List.length b) cp30), (11, .slice aoq47 (List.length (streamF k c n b)) coq47), (22, .slice aoq47 (List.length (streamF k c n b)) coq47), (24, .agg (List.toArray (bys k))), (25, .int .u32 ((UInt32.toNat c : Nat) : Int)), (27, .slice a_b (List.length b) c_b)] → Ev w [] wo [.vec aoq47 coq47 1 (bys (streamF k c n b)) 5, .box bk1 (bys k) 22, .box bk6 (bys n) 24, .vec ao29 cp30 1 (bys b) 5] → G 6 #[true, false, true, true, false, true, false, false, false, false] ac wo := by
      intro ac262 wo263 En264 Hv265
      refine any_from hG ?_
      refine any_two 1 4 (by kernel_rfl) ?_ ?_
      · rintro _ rfl
        refine op_str (d := some 23) (src := 25) (dst := 9) (e := 5) (ao := aoq47) (cap := coq47) (p := List.length (streamF k c n b)) (bs := streamF k c n b) En264 (by kernel_rfl) rfl (by kernel_rfl) (by kernel_rfl) (by kernel_rfl) (Hv265.heap.reads (k := 0) rfl) (bys_vnz Hv265.heap (k := 0) rfl) ?_
        intro ac266 En267
        exact any_to hG (by kernel_rfl) (nd198 _ _ (En267.sub (by kernel_rfl)) (Hv265.pick [0, 1, 2, 3] (by kernel_rfl) (by decide)))
      · rintro _ rfl
        refine op_loadaggbox (d := some 26) (t := 24) (b := bk6) (off := 0) (k := 2) (m := 12) (xs := bys n) En264 (by kernel_rfl) Hv265 rfl (load_whole (bys_lenh n_n)) (bys_lenh n_n) (by kernel_rfl) (by kernel_rfl) ?_
        intro ac268 En269
        exact any_to hG (by kernel_rfl) (nd238 _ _ (En269.sub (by kernel_rfl)) (Hv265.pick [0, 1, 2, 3] (by kernel_rfl) (by decide)))
    have nd270 : ∀ (ac : Act) (wo : World), Env ac 64 [(1, .int .u32 ((UInt32.toNat c : Nat) : Int)), (3, .slice a_b (List.length b) c_b), (4, .pointer (some ⟨bk1, 0, none⟩)), (6, .pointer (some ⟨bk6, 0, none⟩)), (8, .bool false), (9, .bool true), (10, .slice ao29 (List.length b) cp30), (11, .slice aoq47 (List.length (streamF k c n b)) coq47), (22, .slice aoq47 (List.length (streamF k c n b)) coq47), (25, .int .u32 ((UInt32.toNat c : Nat) : Int)), (26, .agg (List.toArray (bys n))), (27, .slice a_b (List.length b) c_b)] → Ev w [] wo [.vec aoq47 coq47 1 (bys (streamF k c n b)) 5, .box bk1 (bys k) 22, .box bk6 (bys n) 24, .vec ao29 cp30 1 (bys b) 5] → G 6 #[true, false, false, true, true, true, false, false, false, false] ac wo := by
      intro ac271 wo272 En273 Hv274
      refine any_from hG ?_
      refine any_two 1 2 (by kernel_rfl) ?_ ?_
      · rintro _ rfl
        refine op_str (d := some 23) (src := 25) (dst := 9) (e := 5) (ao := aoq47) (cap := coq47) (p := List.length (streamF k c n b)) (bs := streamF k c n b) En273 (by kernel_rfl) rfl (by kernel_rfl) (by kernel_rfl) (by kernel_rfl) (Hv274.heap.reads (k := 0) rfl) (bys_vnz Hv274.heap (k := 0) rfl) ?_
        intro ac275 En276
        exact any_to hG (by kernel_rfl) (nd218 _ _ (En276.sub (by kernel_rfl)) (Hv274.pick [0, 1, 2, 3] (by kernel_rfl) (by decide)))
      · rintro _ rfl
        refine op_loadaggbox (d := some 24) (t := 22) (b := bk1) (off := 0) (k := 1) (m := 32) (xs := bys k) En273 (by kernel_rfl) Hv274 rfl (load_whole (bys_lenh n_k)) (bys_lenh n_k) (by kernel_rfl) (by kernel_rfl) ?_
        intro ac277 En278
        exact any_to hG (by kernel_rfl) (nd238 _ _ (En278.sub (by kernel_rfl)) (Hv274.pick [0, 1, 2, 3] (by kernel_rfl) (by decide)))
    refine any_from hG ?_
    refine any_pureR (d := some 22) En55 (v := .slice aoq47 (List.length (streamF k c n b)) coq47) 0 (by kernel_rfl) (by kernel_rfl) rfl ?_
    intro ac279 En280
    refine any_pureR (d := some 25) En280 (v := .int .u32 ((UInt32.toNat c : Nat) : Int)) 3 (by kernel_rfl) (by kernel_rfl) rfl ?_
    intro ac281 En282
    refine any_pureR (d := some 27) En282 (v := .slice a_b (List.length b) c_b) 5 (by kernel_rfl) (by kernel_rfl) rfl ?_
    intro ac283 En284
    refine any_ways [1, 2, 4] (by kernel_rfl) rfl ?_
    refine ⟨?_, ?_, ?_, trivial⟩
    · rintro _ rfl
      refine op_str (d := some 23) (src := 25) (dst := 9) (e := 5) (ao := aoq47) (cap := coq47) (p := List.length (streamF k c n b)) (bs := streamF k c n b) En284 (by kernel_rfl) rfl (by kernel_rfl) (by kernel_rfl) (by kernel_rfl) (wo56.heap.reads (k := 0) rfl) (bys_vnz wo56.heap (k := 0) rfl) ?_
      intro ac285 En286
      exact any_to hG (by kernel_rfl) (nd252 _ _ (En286.sub (by kernel_rfl)) (wo56.pick [0, 1, 2, 3] (by kernel_rfl) (by decide)))
    · rintro _ rfl
      refine op_loadaggbox (d := some 24) (t := 22) (b := bk1) (off := 0) (k := 1) (m := 32) (xs := bys k) En284 (by kernel_rfl) wo56 rfl (load_whole (bys_lenh n_k)) (bys_lenh n_k) (by kernel_rfl) (by kernel_rfl) ?_
      intro ac287 En288
      exact any_to hG (by kernel_rfl) (nd261 _ _ (En288.sub (by kernel_rfl)) (wo56.pick [0, 1, 2, 3] (by kernel_rfl) (by decide)))
    · rintro _ rfl
      refine op_loadaggbox (d := some 26) (t := 24) (b := bk6) (off := 0) (k := 2) (m := 12) (xs := bys n) En284 (by kernel_rfl) wo56 rfl (load_whole (bys_lenh n_n)) (bys_lenh n_n) (by kernel_rfl) (by kernel_rfl) ?_
      intro ac289 En290
      exact any_to hG (by kernel_rfl) (nd270 _ _ (En290.sub (by kernel_rfl)) (wo56.pick [0, 1, 2, 3] (by kernel_rfl) (by decide)))
  rintro ac291 wo292 ⟨En293, Hv294⟩
  refine then_normal ?_
  refine wp_seq ?_
  refine region_cut (F := fun ac wo => Env ac 64 [(1, .int .u32 ((UInt32.toNat c : Nat) : Int)), (3, .slice a_b (List.length b) c_b), (4, .pointer (some ⟨bk1, 0, none⟩)), (6, .pointer (some ⟨bk6, 0, none⟩)), (8, .bool true), (10, .slice ao29 (List.length b) cp30), (11, .slice aoq47 (List.length (streamF k c n b)) coq47)] ∧ Ev w [] wo [.vec aoq47 coq47 1 (bys (streamF k c n b)) 5, .box bk1 (bys k) 22, .box bk6 (bys n) 24, .vec ao29 cp30 1 (bys b) 5]) ?_ ?_
  ·
    refine draw_any (by kernel_rfl) 34 (by kernel_rfl) ?_  -- region 5
    have wo295 := Hv294.trans (Ev.drew Hv294.heap)
    refine any_name fun G hG => ?_
    have nd648 : ∀ (ac : Act) (wo : World), Env ac 64 [(1, .int .u32 ((UInt32.toNat c : Nat) : Int)), (3, .slice a_b (List.length b) c_b), (4, .pointer (some ⟨bk1, 0, none⟩)), (6, .pointer (some ⟨bk6, 0, none⟩)), (8, .bool false), (10, .slice ao29 (List.length b) cp30), (11, .slice aoq47 (List.length (streamF k c n b)) coq47), (53, .bool true), (59, .string (bstr (streamF k c n (streamF k c n b)))), (60, .slice a_b (List.length b) c_b)] → Ev w [] wo [.vec aoq47 coq47 1 (bys (streamF k c n b)) 5, .box bk1 (bys k) 22, .box bk6 (bys n) 24, .vec ao29 cp30 1 (bys b) 5] → G 4 #[true, true, true, true, true, true, true, true, true, true, true, true, true, true, true, true, true, true, true, true, true, true, true, true, true, true, true, true, true, true, false, false, false, false] ac wo := by
      intro ac649 wo650 En651 Hv652
      refine any_from hG ?_
      refine any_at 30 (by kernel_rfl) rfl ?_
      refine op_str (d := some 61) (src := 25) (dst := 9) (e := 5) (ao := a_b) (cap := c_b) (p := List.length b) (bs := b) En651 (by kernel_rfl) rfl (by kernel_rfl) (by kernel_rfl) (by kernel_rfl) (i_b.ev Hv652).reads i_b.nz ?_
      intro ac653 En654
      refine any_pureR (d := some 62) En654 (v := .bool (ByteArray.toList (bstr (streamF k c n (streamF k c n b))) == ByteArray.toList (bstr b))) 31 (by kernel_rfl) (by kernel_rfl) rfl ?_
      intro ac655 En656
      rw [Go.Dbr.bstr_eq (streamF k c n (streamF k c n b)) b, show ((streamF k c n (streamF k c n b)) == b) = true from (by rw [stream_twice]; simp)] at En656
      refine any_pureR (d := some 63) En656 (v := .bool true) 32 (by kernel_rfl) (by kernel_rfl) rfl ?_
      intro ac657 En658
      refine any_pureR (d := some 8) En658 (v := .bool true) 33 (by kernel_rfl) (by kernel_rfl) rfl ?_
      intro ac659 En660
      exact any_end (by kernel_rfl) ⟨En660.sub (by kernel_rfl), Hv652.pick [0, 1, 2, 3] (by kernel_rfl) (by decide)⟩
    have nd661 : ∀ (ac : Act) (wo : World) (aoq360 : _) (coq360 : _), Env ac 64 [(1, .int .u32 ((UInt32.toNat c : Nat) : Int)), (3, .slice a_b (List.length b) c_b), (4, .pointer (some ⟨bk1, 0, none⟩)), (6, .pointer (some ⟨bk6, 0, none⟩)), (8, .bool false), (10, .slice ao29 (List.length b) cp30), (11, .slice aoq47 (List.length (streamF k c n b)) coq47), (53, .bool true), (58, .slice aoq360 (List.length (streamF k c n (streamF k c n b))) coq360), (61, .string (bstr b))] → Ev w [] wo [.vec aoq360 coq360 1 (bys (streamF k c n (streamF k c n b))) 5, .vec aoq47 coq47 1 (bys (streamF k c n b)) 5, .box bk1 (bys k) 22, .box bk6 (bys n) 24, .vec ao29 cp30 1 (bys b) 5] → G 4 #[true, true, true, true, true, true, true, true, true, true, true, true, true, true, true, true, true, true, true, true, true, true, true, true, true, true, true, true, false, true, true, false, false, false] ac wo := by
      intro ac662 wo663 aoq360 coq360 En664 Hv665
      refine any_from hG ?_
      refine any_at 28 (by kernel_rfl) rfl ?_
      refine op_str (d := some 59) (src := 25) (dst := 9) (e := 5) (ao := aoq360) (cap := coq360) (p := List.length (streamF k c n (streamF k c n b))) (bs := streamF k c n (streamF k c n b)) En664 (by kernel_rfl) rfl (by kernel_rfl) (by kernel_rfl) (by kernel_rfl) (Hv665.heap.reads (k := 0) rfl) (bys_vnz Hv665.heap (k := 0) rfl) ?_
      intro ac666 En667
      refine any_pureR (d := some 62) En667 (v := .bool (ByteArray.toList (bstr (streamF k c n (streamF k c n b))) == ByteArray.toList (bstr b))) 31 (by kernel_rfl) (by kernel_rfl) rfl ?_
      intro ac668 En669
      rw [Go.Dbr.bstr_eq (streamF k c n (streamF k c n b)) b, show ((streamF k c n (streamF k c n b)) == b) = true from (by rw [stream_twice]; simp)] at En669
      refine any_pureR (d := some 63) En669 (v := .bool true) 32 (by kernel_rfl) (by kernel_rfl) rfl ?_
      intro ac670 En671
      refine any_pureR (d := some 8) En671 (v := .bool true) 33 (by kernel_rfl) (by kernel_rfl) rfl ?_
      intro ac672 En673
      exact any_end (by kernel_rfl) ⟨En673.sub (by kernel_rfl), Hv665.pick [1, 2, 3, 4] (by kernel_rfl) (by decide)⟩
    have nd674 : ∀ (ac : Act) (wo : World) (aoq360 : _) (coq360 : _), Env ac 64 [(1, .int .u32 ((UInt32.toNat c : Nat) : Int)), (3, .slice a_b (List.length b) c_b), (4, .pointer (some ⟨bk1, 0, none⟩)), (6, .pointer (some ⟨bk6, 0, none⟩)), (8, .bool false), (10, .slice ao29 (List.length b) cp30), (11, .slice aoq47 (List.length (streamF k c n b)) coq47), (53, .bool true), (58, .slice aoq360 (List.length (streamF k c n (streamF k c n b))) coq360), (60, .slice a_b (List.length b) c_b)] → Ev w [] wo [.vec aoq360 coq360 1 (bys (streamF k c n (streamF k c n b))) 5, .vec aoq47 coq47 1 (bys (streamF k c n b)) 5, .box bk1 (bys k) 22, .box bk6 (bys n) 24, .vec ao29 cp30 1 (bys b) 5] → G 5 #[true, true, true, true, true, true, true, true, true, true, true, true, true, true, true, true, true, true, true, true, true, true, true, true, true, true, true, true, false, true, false, false, false, false] ac wo := by
      intro ac675 wo676 aoq360 coq360 En677 Hv678
      refine any_from hG ?_
      refine any_two 28 30 (by kernel_rfl) ?_ ?_
      · rintro _ rfl
        refine op_str (d := some 59) (src := 25) (dst := 9) (e := 5) (ao := aoq360) (cap := coq360) (p := List.length (streamF k c n (streamF k c n b))) (bs := streamF k c n (streamF k c n b)) En677 (by kernel_rfl) rfl (by kernel_rfl) (by kernel_rfl) (by kernel_rfl) (Hv678.heap.reads (k := 0) rfl) (bys_vnz Hv678.heap (k := 0) rfl) ?_
        intro ac679 En680
        exact any_to hG (by kernel_rfl) (nd648 _ _ (En680.sub (by kernel_rfl)) (Hv678.pick [1, 2, 3, 4] (by kernel_rfl) (by decide)))
      · rintro _ rfl
        refine op_str (d := some 61) (src := 25) (dst := 9) (e := 5) (ao := a_b) (cap := c_b) (p := List.length b) (bs := b) En677 (by kernel_rfl) rfl (by kernel_rfl) (by kernel_rfl) (by kernel_rfl) (i_b.ev Hv678).reads i_b.nz ?_
        intro ac681 En682
        exact any_to hG (by kernel_rfl) (nd661 _ _ aoq360 coq360 (En682.sub (by kernel_rfl)) (Hv678.pick [0, 1, 2, 3, 4] (by kernel_rfl) (by decide)))
    have nd683 : ∀ (ac : Act) (wo : World), Env ac 64 [(1, .int .u32 ((UInt32.toNat c : Nat) : Int)), (3, .slice a_b (List.length b) c_b), (4, .pointer (some ⟨bk1, 0, none⟩)), (6, .pointer (some ⟨bk6, 0, none⟩)), (8, .bool false), (10, .slice ao29 (List.length b) cp30), (11, .slice aoq47 (List.length (streamF k c n b)) coq47), (53, .bool true), (54, .agg (List.toArray (bys k))), (55, .int .u32 ((UInt32.toNat c : Nat) : Int)), (56, .agg (List.toArray (bys n))), (57, .slice aoq47 (List.length (streamF k c n b)) coq47), (61, .string (bstr b))] → Ev w [] wo [.vec aoq47 coq47 1 (bys (streamF k c n b)) 5, .box bk1 (bys k) 22, .box bk6 (bys n) 24, .vec ao29 cp30 1 (bys b) 5] → G 5 #[true, true, true, true, true, true, true, true, true, true, true, true, true, true, true, true, true, true, true, true, true, true, true, true, true, true, true, false, false, true, true, false, false, false] ac wo := by
      intro ac684 wo685 En686 Hv687
      refine any_from hG ?_
      refine any_at 27 (by kernel_rfl) rfl ?_
      have hM689 : Heap wo685 [] := Hv687.heap.pick [] (by kernel_rfl) (by decide)
      refine op_call (d := some 58) (f := 9) (args := #[.agg (List.toArray (bys k)), .int .u32 ((UInt32.toNat c : Nat) : Int), .agg (List.toArray (bys n)), .slice aoq47 (List.length (streamF k c n b)) coq47]) En686 (by kernel_rfl) ((stream_go _ k n_k c n n_n aoq47 (List.length (streamF k c n b)) coq47 (streamF k c n b) (by first | rfl | (simp; done) | (simp; omega) | omega) (bys_in Hv687.heap (k := 0) rfl [] (by kernel_rfl) rfl (by first | omega | (simp; done) | (simp; omega)))).mono ?_)
      rintro _ wo691 ⟨aoq688, coq688, rfl, he694⟩
      refine ⟨_, rfl, ?_⟩
      intro ac690 En692
      have Hv693 : Ev w [] wo691 [.vec aoq688 coq688 1 (bys (streamF k c n (streamF k c n b))) 5, .vec aoq47 coq47 1 (bys (streamF k c n b)) 5, .box bk1 (bys k) 22, .box bk6 (bys n) 24, .vec ao29 cp30 1 (bys b) 5] := Hv687.trans (Ev.call (R := [.vec aoq47 coq47 1 (bys (streamF k c n b)) 5, .box bk1 (bys k) 22, .box bk6 (bys n) 24, .vec ao29 cp30 1 (bys b) 5]) Hv687.heap [0, 1, 2, 3] (by kernel_rfl) (by decide) he694)
      clear hM689 he694
      refine any_at 28 (by kernel_rfl) rfl ?_
      refine op_str (d := some 59) (src := 25) (dst := 9) (e := 5) (ao := aoq688) (cap := coq688) (p := List.length (streamF k c n (streamF k c n b))) (bs := streamF k c n (streamF k c n b)) En692 (by kernel_rfl) rfl (by kernel_rfl) (by kernel_rfl) (by kernel_rfl) (Hv693.heap.reads (k := 0) rfl) (bys_vnz Hv693.heap (k := 0) rfl) ?_
      intro ac695 En696
      refine any_pureR (d := some 62) En696 (v := .bool (ByteArray.toList (bstr (streamF k c n (streamF k c n b))) == ByteArray.toList (bstr b))) 31 (by kernel_rfl) (by kernel_rfl) rfl ?_
      intro ac697 En698
      rw [Go.Dbr.bstr_eq (streamF k c n (streamF k c n b)) b, show ((streamF k c n (streamF k c n b)) == b) = true from (by rw [stream_twice]; simp)] at En698
      refine any_pureR (d := some 63) En698 (v := .bool true) 32 (by kernel_rfl) (by kernel_rfl) rfl ?_
      intro ac699 En700
      refine any_pureR (d := some 8) En700 (v := .bool true) 33 (by kernel_rfl) (by kernel_rfl) rfl ?_
      intro ac701 En702
      exact any_end (by kernel_rfl) ⟨En702.sub (by kernel_rfl), Hv693.pick [1, 2, 3, 4] (by kernel_rfl) (by decide)⟩
    have nd703 : ∀ (ac : Act) (wo : World), Env ac 64 [(1, .int .u32 ((UInt32.toNat c : Nat) : Int)), (3, .slice a_b (List.length b) c_b), (4, .pointer (some ⟨bk1, 0, none⟩)), (6, .pointer (some ⟨bk6, 0, none⟩)), (8, .bool false), (10, .slice ao29 (List.length b) cp30), (11, .slice aoq47 (List.length (streamF k c n b)) coq47), (53, .bool true), (54, .agg (List.toArray (bys k))), (55, .int .u32 ((UInt32.toNat c : Nat) : Int)), (56, .agg (List.toArray (bys n))), (57, .slice aoq47 (List.length (streamF k c n b)) coq47), (60, .slice a_b (List.length b) c_b)] → Ev w [] wo [.vec aoq47 coq47 1 (bys (streamF k c n b)) 5, .box bk1 (bys k) 22, .box bk6 (bys n) 24, .vec ao29 cp30 1 (bys b) 5] → G 6 #[true, true, true, true, true, true, true, true, true, true, true, true, true, true, true, true, true, true, true, true, true, true, true, true, true, true, true, false, false, true, false, false, false, false] ac wo := by
      intro ac704 wo705 En706 Hv707
      refine any_from hG ?_
      refine any_two 27 30 (by kernel_rfl) ?_ ?_
      · rintro _ rfl
        have hM709 : Heap wo705 [] := Hv707.heap.pick [] (by kernel_rfl) (by decide)
        refine op_call (d := some 58) (f := 9) (args := #[.agg (List.toArray (bys k)), .int .u32 ((UInt32.toNat c : Nat) : Int), .agg (List.toArray (bys n)), .slice aoq47 (List.length (streamF k c n b)) coq47]) En706 (by kernel_rfl) ((stream_go _ k n_k c n n_n aoq47 (List.length (streamF k c n b)) coq47 (streamF k c n b) (by first | rfl | (simp; done) | (simp; omega) | omega) (bys_in Hv707.heap (k := 0) rfl [] (by kernel_rfl) rfl (by first | omega | (simp; done) | (simp; omega)))).mono ?_)
        rintro _ wo711 ⟨aoq708, coq708, rfl, he714⟩
        refine ⟨_, rfl, ?_⟩
        intro ac710 En712
        have Hv713 : Ev w [] wo711 [.vec aoq708 coq708 1 (bys (streamF k c n (streamF k c n b))) 5, .vec aoq47 coq47 1 (bys (streamF k c n b)) 5, .box bk1 (bys k) 22, .box bk6 (bys n) 24, .vec ao29 cp30 1 (bys b) 5] := Hv707.trans (Ev.call (R := [.vec aoq47 coq47 1 (bys (streamF k c n b)) 5, .box bk1 (bys k) 22, .box bk6 (bys n) 24, .vec ao29 cp30 1 (bys b) 5]) Hv707.heap [0, 1, 2, 3] (by kernel_rfl) (by decide) he714)
        clear hM709 he714
        exact any_to hG (by kernel_rfl) (nd674 _ _ aoq708 coq708 (En712.sub (by kernel_rfl)) (Hv713.pick [0, 1, 2, 3, 4] (by kernel_rfl) (by decide)))
      · rintro _ rfl
        refine op_str (d := some 61) (src := 25) (dst := 9) (e := 5) (ao := a_b) (cap := c_b) (p := List.length b) (bs := b) En706 (by kernel_rfl) rfl (by kernel_rfl) (by kernel_rfl) (by kernel_rfl) (i_b.ev Hv707).reads i_b.nz ?_
        intro ac715 En716
        exact any_to hG (by kernel_rfl) (nd683 _ _ (En716.sub (by kernel_rfl)) (Hv707.pick [0, 1, 2, 3] (by kernel_rfl) (by decide)))
    have nd717 : ∀ (ac : Act) (wo : World), Env ac 64 [(1, .int .u32 ((UInt32.toNat c : Nat) : Int)), (3, .slice a_b (List.length b) c_b), (4, .pointer (some ⟨bk1, 0, none⟩)), (6, .pointer (some ⟨bk6, 0, none⟩)), (8, .bool false), (10, .slice ao29 (List.length b) cp30), (11, .slice aoq47 (List.length (streamF k c n b)) coq47), (53, .bool true), (54, .agg (List.toArray (bys k))), (55, .int .u32 ((UInt32.toNat c : Nat) : Int)), (57, .slice aoq47 (List.length (streamF k c n b)) coq47), (61, .string (bstr b))] → Ev w [] wo [.vec aoq47 coq47 1 (bys (streamF k c n b)) 5, .box bk1 (bys k) 22, .box bk6 (bys n) 24, .vec ao29 cp30 1 (bys b) 5] → G 6 #[true, true, true, true, true, true, true, true, true, true, true, true, true, true, true, true, true, true, true, true, true, true, true, true, true, false, true, false, false, true, true, false, false, false] ac wo := by
      intro ac718 wo719 En720 Hv721
      refine any_from hG ?_
      refine any_at 25 (by kernel_rfl) rfl ?_
      refine op_loadaggbox (d := some 56) (t := 24) (b := bk6) (off := 0) (k := 2) (m := 12) (xs := bys n) En720 (by kernel_rfl) Hv721 rfl (load_whole (bys_lenh n_n)) (bys_lenh n_n) (by kernel_rfl) (by kernel_rfl) ?_
      intro ac722 En723
      refine any_at 27 (by kernel_rfl) rfl ?_
      have hM725 : Heap wo719 [] := Hv721.heap.pick [] (by kernel_rfl) (by decide)
      refine op_call (d := some 58) (f := 9) (args := #[.agg (List.toArray (bys k)), .int .u32 ((UInt32.toNat c : Nat) : Int), .agg (List.toArray (bys n)), .slice aoq47 (List.length (streamF k c n b)) coq47]) En723 (by kernel_rfl) ((stream_go _ k n_k c n n_n aoq47 (List.length (streamF k c n b)) coq47 (streamF k c n b) (by first | rfl | (simp; done) | (simp; omega) | omega) (bys_in Hv721.heap (k := 0) rfl [] (by kernel_rfl) rfl (by first | omega | (simp; done) | (simp; omega)))).mono ?_)
      rintro _ wo727 ⟨aoq724, coq724, rfl, he730⟩
      refine ⟨_, rfl, ?_⟩
      intro ac726 En728
      have Hv729 : Ev w [] wo727 [.vec aoq724 coq724 1 (bys (streamF k c n (streamF k c n b))) 5, .vec aoq47 coq47 1 (bys (streamF k c n b)) 5, .box bk1 (bys k) 22, .box bk6 (bys n) 24, .vec ao29 cp30 1 (bys b) 5] := Hv721.trans (Ev.call (R := [.vec aoq47 coq47 1 (bys (streamF k c n b)) 5, .box bk1 (bys k) 22, .box bk6 (bys n) 24, .vec ao29 cp30 1 (bys b) 5]) Hv721.heap [0, 1, 2, 3] (by kernel_rfl) (by decide) he730)
      clear hM725 he730
      refine any_at 28 (by kernel_rfl) rfl ?_
      refine op_str (d := some 59) (src := 25) (dst := 9) (e := 5) (ao := aoq724) (cap := coq724) (p := List.length (streamF k c n (streamF k c n b))) (bs := streamF k c n (streamF k c n b)) En728 (by kernel_rfl) rfl (by kernel_rfl) (by kernel_rfl) (by kernel_rfl) (Hv729.heap.reads (k := 0) rfl) (bys_vnz Hv729.heap (k := 0) rfl) ?_
      intro ac731 En732
      refine any_pureR (d := some 62) En732 (v := .bool (ByteArray.toList (bstr (streamF k c n (streamF k c n b))) == ByteArray.toList (bstr b))) 31 (by kernel_rfl) (by kernel_rfl) rfl ?_
      intro ac733 En734
      rw [Go.Dbr.bstr_eq (streamF k c n (streamF k c n b)) b, show ((streamF k c n (streamF k c n b)) == b) = true from (by rw [stream_twice]; simp)] at En734
      refine any_pureR (d := some 63) En734 (v := .bool true) 32 (by kernel_rfl) (by kernel_rfl) rfl ?_
      intro ac735 En736
      refine any_pureR (d := some 8) En736 (v := .bool true) 33 (by kernel_rfl) (by kernel_rfl) rfl ?_
      intro ac737 En738
      exact any_end (by kernel_rfl) ⟨En738.sub (by kernel_rfl), Hv729.pick [1, 2, 3, 4] (by kernel_rfl) (by decide)⟩
    have nd739 : ∀ (ac : Act) (wo : World), Env ac 64 [(1, .int .u32 ((UInt32.toNat c : Nat) : Int)), (3, .slice a_b (List.length b) c_b), (4, .pointer (some ⟨bk1, 0, none⟩)), (6, .pointer (some ⟨bk6, 0, none⟩)), (8, .bool false), (10, .slice ao29 (List.length b) cp30), (11, .slice aoq47 (List.length (streamF k c n b)) coq47), (53, .bool true), (55, .int .u32 ((UInt32.toNat c : Nat) : Int)), (56, .agg (List.toArray (bys n))), (57, .slice aoq47 (List.length (streamF k c n b)) coq47), (61, .string (bstr b))] → Ev w [] wo [.vec aoq47 coq47 1 (bys (streamF k c n b)) 5, .box bk1 (bys k) 22, .box bk6 (bys n) 24, .vec ao29 cp30 1 (bys b) 5] → G 6 #[true, true, true, true, true, true, true, true, true, true, true, true, true, true, true, true, true, true, true, true, true, true, true, false, true, true, true, false, false, true, true, false, false, false] ac wo := by
      intro ac740 wo741 En742 Hv743
      refine any_from hG ?_
      refine any_at 23 (by kernel_rfl) rfl ?_
      refine op_loadaggbox (d := some 54) (t := 22) (b := bk1) (off := 0) (k := 1) (m := 32) (xs := bys k) En742 (by kernel_rfl) Hv743 rfl (load_whole (bys_lenh n_k)) (bys_lenh n_k) (by kernel_rfl) (by kernel_rfl) ?_
      intro ac744 En745
      refine any_at 27 (by kernel_rfl) rfl ?_
      have hM747 : Heap wo741 [] := Hv743.heap.pick [] (by kernel_rfl) (by decide)
      refine op_call (d := some 58) (f := 9) (args := #[.agg (List.toArray (bys k)), .int .u32 ((UInt32.toNat c : Nat) : Int), .agg (List.toArray (bys n)), .slice aoq47 (List.length (streamF k c n b)) coq47]) En745 (by kernel_rfl) ((stream_go _ k n_k c n n_n aoq47 (List.length (streamF k c n b)) coq47 (streamF k c n b) (by first | rfl | (simp; done) | (simp; omega) | omega) (bys_in Hv743.heap (k := 0) rfl [] (by kernel_rfl) rfl (by first | omega | (simp; done) | (simp; omega)))).mono ?_)
      rintro _ wo749 ⟨aoq746, coq746, rfl, he752⟩
      refine ⟨_, rfl, ?_⟩
      intro ac748 En750
      have Hv751 : Ev w [] wo749 [.vec aoq746 coq746 1 (bys (streamF k c n (streamF k c n b))) 5, .vec aoq47 coq47 1 (bys (streamF k c n b)) 5, .box bk1 (bys k) 22, .box bk6 (bys n) 24, .vec ao29 cp30 1 (bys b) 5] := Hv743.trans (Ev.call (R := [.vec aoq47 coq47 1 (bys (streamF k c n b)) 5, .box bk1 (bys k) 22, .box bk6 (bys n) 24, .vec ao29 cp30 1 (bys b) 5]) Hv743.heap [0, 1, 2, 3] (by kernel_rfl) (by decide) he752)
      clear hM747 he752
      refine any_at 28 (by kernel_rfl) rfl ?_
      refine op_str (d := some 59) (src := 25) (dst := 9) (e := 5) (ao := aoq746) (cap := coq746) (p := List.length (streamF k c n (streamF k c n b))) (bs := streamF k c n (streamF k c n b)) En750 (by kernel_rfl) rfl (by kernel_rfl) (by kernel_rfl) (by kernel_rfl) (Hv751.heap.reads (k := 0) rfl) (bys_vnz Hv751.heap (k := 0) rfl) ?_
      intro ac753 En754
      refine any_pureR (d := some 62) En754 (v := .bool (ByteArray.toList (bstr (streamF k c n (streamF k c n b))) == ByteArray.toList (bstr b))) 31 (by kernel_rfl) (by kernel_rfl) rfl ?_
      intro ac755 En756
      rw [Go.Dbr.bstr_eq (streamF k c n (streamF k c n b)) b, show ((streamF k c n (streamF k c n b)) == b) = true from (by rw [stream_twice]; simp)] at En756
      refine any_pureR (d := some 63) En756 (v := .bool true) 32 (by kernel_rfl) (by kernel_rfl) rfl ?_
      intro ac757 En758
      refine any_pureR (d := some 8) En758 (v := .bool true) 33 (by kernel_rfl) (by kernel_rfl) rfl ?_
      intro ac759 En760
      exact any_end (by kernel_rfl) ⟨En760.sub (by kernel_rfl), Hv751.pick [1, 2, 3, 4] (by kernel_rfl) (by decide)⟩
    have nd761 : ∀ (ac : Act) (wo : World), Env ac 64 [(1, .int .u32 ((UInt32.toNat c : Nat) : Int)), (3, .slice a_b (List.length b) c_b), (4, .pointer (some ⟨bk1, 0, none⟩)), (6, .pointer (some ⟨bk6, 0, none⟩)), (8, .bool false), (10, .slice ao29 (List.length b) cp30), (11, .slice aoq47 (List.length (streamF k c n b)) coq47), (53, .bool true), (54, .agg (List.toArray (bys k))), (55, .int .u32 ((UInt32.toNat c : Nat) : Int)), (57, .slice aoq47 (List.length (streamF k c n b)) coq47), (60, .slice a_b (List.length b) c_b)] → Ev w [] wo [.vec aoq47 coq47 1 (bys (streamF k c n b)) 5, .box bk1 (bys k) 22, .box bk6 (bys n) 24, .vec ao29 cp30 1 (bys b) 5] → G 7 #[true, true, true, true, true, true, true, true, true, true, true, true, true, true, true, true, true, true, true, true, true, true, true, true, true, false, true, false, false, true, false, false, false, false] ac wo := by
      intro ac762 wo763 En764 Hv765
      refine any_from hG ?_
      refine any_two 25 30 (by kernel_rfl) ?_ ?_
      · rintro _ rfl
        refine op_loadaggbox (d := some 56) (t := 24) (b := bk6) (off := 0) (k := 2) (m := 12) (xs := bys n) En764 (by kernel_rfl) Hv765 rfl (load_whole (bys_lenh n_n)) (bys_lenh n_n) (by kernel_rfl) (by kernel_rfl) ?_
        intro ac766 En767
        exact any_to hG (by kernel_rfl) (nd703 _ _ (En767.sub (by kernel_rfl)) (Hv765.pick [0, 1, 2, 3] (by kernel_rfl) (by decide)))
      · rintro _ rfl
        refine op_str (d := some 61) (src := 25) (dst := 9) (e := 5) (ao := a_b) (cap := c_b) (p := List.length b) (bs := b) En764 (by kernel_rfl) rfl (by kernel_rfl) (by kernel_rfl) (by kernel_rfl) (i_b.ev Hv765).reads i_b.nz ?_
        intro ac768 En769
        exact any_to hG (by kernel_rfl) (nd717 _ _ (En769.sub (by kernel_rfl)) (Hv765.pick [0, 1, 2, 3] (by kernel_rfl) (by decide)))
    have nd770 : ∀ (ac : Act) (wo : World), Env ac 64 [(1, .int .u32 ((UInt32.toNat c : Nat) : Int)), (3, .slice a_b (List.length b) c_b), (4, .pointer (some ⟨bk1, 0, none⟩)), (6, .pointer (some ⟨bk6, 0, none⟩)), (8, .bool false), (10, .slice ao29 (List.length b) cp30), (11, .slice aoq47 (List.length (streamF k c n b)) coq47), (53, .bool true), (55, .int .u32 ((UInt32.toNat c : Nat) : Int)), (56, .agg (List.toArray (bys n))), (57, .slice aoq47 (List.length (streamF k c n b)) coq47), (60, .slice a_b (List.length b) c_b)] → Ev w [] wo [.vec aoq47 coq47 1 (bys (streamF k c n b)) 5, .box bk1 (bys k) 22, .box bk6 (bys n) 24, .vec ao29 cp30 1 (bys b) 5] → G 7 #[true, true, true, true, true, true, true, true, true, true, true, true, true, true, true, true, true, true, true, true, true, true, true, false, true, true, true, false, false, true, false, false, false, false] ac wo := by
      intro ac771 wo772 En773 Hv774
      refine any_from hG ?_
      refine any_two 23 30 (by kernel_rfl) ?_ ?_
      · rintro _ rfl
        refine op_loadaggbox (d := some 54) (t := 22) (b := bk1) (off := 0) (k := 1) (m := 32) (xs := bys k) En773 (by kernel_rfl) Hv774 rfl (load_whole (bys_lenh n_k)) (bys_lenh n_k) (by kernel_rfl) (by kernel_rfl) ?_
        intro ac775 En776
        exact any_to hG (by kernel_rfl) (nd703 _ _ (En776.sub (by kernel_rfl)) (Hv774.pick [0, 1, 2, 3] (by kernel_rfl) (by decide)))
      · rintro _ rfl
        refine op_str (d := some 61) (src := 25) (dst := 9) (e := 5) (ao := a_b) (cap := c_b) (p := List.length b) (bs := b) En773 (by kernel_rfl) rfl (by kernel_rfl) (by kernel_rfl) (by kernel_rfl) (i_b.ev Hv774).reads i_b.nz ?_
        intro ac777 En778
        exact any_to hG (by kernel_rfl) (nd739 _ _ (En778.sub (by kernel_rfl)) (Hv774.pick [0, 1, 2, 3] (by kernel_rfl) (by decide)))
    have nd779 : ∀ (ac : Act) (wo : World), Env ac 64 [(1, .int .u32 ((UInt32.toNat c : Nat) : Int)), (3, .slice a_b (List.length b) c_b), (4, .pointer (some ⟨bk1, 0, none⟩)), (6, .pointer (some ⟨bk6, 0, none⟩)), (8, .bool false), (10, .slice ao29 (List.length b) cp30), (11, .slice aoq47 (List.length (streamF k c n b)) coq47), (53, .bool true), (55, .int .u32 ((UInt32.toNat c : Nat) : Int)), (57, .slice aoq47 (List.length (streamF k c n b)) coq47), (61, .string (bstr b))] → Ev w [] wo [.vec aoq47 coq47 1 (bys (streamF k c n b)) 5, .box bk1 (bys k) 22, .box bk6 (bys n) 24, .vec ao29 cp30 1 (bys b) 5] → G 7 #[true, true, true, true, true, true, true, true, true, true, true, true, true, true, true, true, true, true, true, true, true, true, true, false, true, false, true, false, false, true, true, false, false, false] ac wo := by
      intro ac780 wo781 En782 Hv783
      refine any_from hG ?_
      refine any_two 23 25 (by kernel_rfl) ?_ ?_
      · rintro _ rfl
        refine op_loadaggbox (d := some 54) (t := 22) (b := bk1) (off := 0) (k := 1) (m := 32) (xs := bys k) En782 (by kernel_rfl) Hv783 rfl (load_whole (bys_lenh n_k)) (bys_lenh n_k) (by kernel_rfl) (by kernel_rfl) ?_
        intro ac784 En785
        exact any_to hG (by kernel_rfl) (nd717 _ _ (En785.sub (by kernel_rfl)) (Hv783.pick [0, 1, 2, 3] (by kernel_rfl) (by decide)))
      · rintro _ rfl
        refine op_loadaggbox (d := some 56) (t := 24) (b := bk6) (off := 0) (k := 2) (m := 12) (xs := bys n) En782 (by kernel_rfl) Hv783 rfl (load_whole (bys_lenh n_n)) (bys_lenh n_n) (by kernel_rfl) (by kernel_rfl) ?_
        intro ac786 En787
        exact any_to hG (by kernel_rfl) (nd739 _ _ (En787.sub (by kernel_rfl)) (Hv783.pick [0, 1, 2, 3] (by kernel_rfl) (by decide)))
    have nd788 : ∀ (ac : Act) (wo : World), Env ac 64 [(1, .int .u32 ((UInt32.toNat c : Nat) : Int)), (3, .slice a_b (List.length b) c_b), (4, .pointer (some ⟨bk1, 0, none⟩)), (6, .pointer (some ⟨bk6, 0, none⟩)), (8, .bool false), (10, .slice ao29 (List.length b) cp30), (11, .slice aoq47 (List.length (streamF k c n b)) coq47), (46, .bool true), (48, .string (bstr b)), (49, .slice a_b (List.length b) c_b)] → Ev w [] wo [.vec aoq47 coq47 1 (bys (streamF k c n b)) 5, .box bk1 (bys k) 22, .box bk6 (bys n) 24, .vec ao29 cp30 1 (bys b) 5] → G 15 #[true, true, true, true, true, true, true, true, true, true, true, true, true, true, true, true, true, true, true, false, false, false, false, false, false, false, false, false, false, false, false, false, false, false] ac wo := by
      intro ac789 wo790 En791 Hv792
      refine any_from hG ?_
      refine any_at 19 (by kernel_rfl) rfl ?_
      refine op_str (d := some 50) (src := 25) (dst := 9) (e := 5) (ao := a_b) (cap := c_b) (p := List.length b) (bs := b) En791 (by kernel_rfl) rfl (by kernel_rfl) (by kernel_rfl) (by kernel_rfl) (i_b.ev Hv792).reads i_b.nz ?_
      intro ac793 En794
      refine any_pureR (d := some 51) En794 (v := .bool (ByteArray.toList (bstr b) == ByteArray.toList (bstr b))) 20 (by kernel_rfl) (by kernel_rfl) rfl ?_
      intro ac795 En796
      rw [Go.Dbr.bstr_eq b b, show (b == b) = true from (by simp)] at En796
      refine any_pureR (d := some 52) En796 (v := .bool true) 21 (by kernel_rfl) (by kernel_rfl) rfl ?_
      intro ac797 En798
      refine any_pureR (d := some 53) En798 (v := .bool true) 22 (by kernel_rfl) (by kernel_rfl) rfl ?_
      intro ac799 En800
      refine any_pureR (d := some 55) En800 (v := .int .u32 ((UInt32.toNat c : Nat) : Int)) 24 (by kernel_rfl) (by kernel_rfl) rfl ?_
      intro ac801 En802
      refine any_pureR (d := some 57) En802 (v := .slice aoq47 (List.length (streamF k c n b)) coq47) 26 (by kernel_rfl) (by kernel_rfl) rfl ?_
      intro ac803 En804
      refine any_pureR (d := some 60) En804 (v := .slice a_b (List.length b) c_b) 29 (by kernel_rfl) (by kernel_rfl) rfl ?_
      intro ac805 En806
      refine any_ways [23, 25, 30] (by kernel_rfl) rfl ?_
      refine ⟨?_, ?_, ?_, trivial⟩
      · rintro _ rfl
        refine op_loadaggbox (d := some 54) (t := 22) (b := bk1) (off := 0) (k := 1) (m := 32) (xs := bys k) En806 (by kernel_rfl) Hv792 rfl (load_whole (bys_lenh n_k)) (bys_lenh n_k) (by kernel_rfl) (by kernel_rfl) ?_
        intro ac807 En808
        exact any_to hG (by kernel_rfl) (nd761 _ _ (En808.sub (by kernel_rfl)) (Hv792.pick [0, 1, 2, 3] (by kernel_rfl) (by decide)))
      · rintro _ rfl
        refine op_loadaggbox (d := some 56) (t := 24) (b := bk6) (off := 0) (k := 2) (m := 12) (xs := bys n) En806 (by kernel_rfl) Hv792 rfl (load_whole (bys_lenh n_n)) (bys_lenh n_n) (by kernel_rfl) (by kernel_rfl) ?_
        intro ac809 En810
        exact any_to hG (by kernel_rfl) (nd770 _ _ (En810.sub (by kernel_rfl)) (Hv792.pick [0, 1, 2, 3] (by kernel_rfl) (by decide)))
      · rintro _ rfl
        refine op_str (d := some 61) (src := 25) (dst := 9) (e := 5) (ao := a_b) (cap := c_b) (p := List.length b) (bs := b) En806 (by kernel_rfl) rfl (by kernel_rfl) (by kernel_rfl) (by kernel_rfl) (i_b.ev Hv792).reads i_b.nz ?_
        intro ac811 En812
        exact any_to hG (by kernel_rfl) (nd779 _ _ (En812.sub (by kernel_rfl)) (Hv792.pick [0, 1, 2, 3] (by kernel_rfl) (by decide)))
    have nd813 : ∀ (ac : Act) (wo : World), Env ac 64 [(1, .int .u32 ((UInt32.toNat c : Nat) : Int)), (3, .slice a_b (List.length b) c_b), (4, .pointer (some ⟨bk1, 0, none⟩)), (6, .pointer (some ⟨bk6, 0, none⟩)), (8, .bool false), (10, .slice ao29 (List.length b) cp30), (11, .slice aoq47 (List.length (streamF k c n b)) coq47), (46, .bool true), (47, .slice ao29 (List.length b) cp30), (50, .string (bstr b))] → Ev w [] wo [.vec aoq47 coq47 1 (bys (streamF k c n b)) 5, .box bk1 (bys k) 22, .box bk6 (bys n) 24, .vec ao29 cp30 1 (bys b) 5] → G 15 #[true, true, true, true, true, true, true, true, true, true, true, true, true, true, true, true, true, false, true, true, false, false, false, false, false, false, false, false, false, false, false, false, false, false] ac wo := by
      intro ac814 wo815 En816 Hv817
      refine any_from hG ?_
      refine any_at 17 (by kernel_rfl) rfl ?_
      refine op_str (d := some 48) (src := 25) (dst := 9) (e := 5) (ao := ao29) (cap := cp30) (p := List.length b) (bs := b) En816 (by kernel_rfl) rfl (by kernel_rfl) (by kernel_rfl) (by kernel_rfl) (Hv817.heap.reads (k := 3) rfl) (bys_vnz Hv817.heap (k := 3) rfl) ?_
      intro ac818 En819
      refine any_pureR (d := some 51) En819 (v := .bool (ByteArray.toList (bstr b) == ByteArray.toList (bstr b))) 20 (by kernel_rfl) (by kernel_rfl) rfl ?_
      intro ac820 En821
      rw [Go.Dbr.bstr_eq b b, show (b == b) = true from (by simp)] at En821
      refine any_pureR (d := some 52) En821 (v := .bool true) 21 (by kernel_rfl) (by kernel_rfl) rfl ?_
      intro ac822 En823
      refine any_pureR (d := some 53) En823 (v := .bool true) 22 (by kernel_rfl) (by kernel_rfl) rfl ?_
      intro ac824 En825
      refine any_pureR (d := some 55) En825 (v := .int .u32 ((UInt32.toNat c : Nat) : Int)) 24 (by kernel_rfl) (by kernel_rfl) rfl ?_
      intro ac826 En827
      refine any_pureR (d := some 57) En827 (v := .slice aoq47 (List.length (streamF k c n b)) coq47) 26 (by kernel_rfl) (by kernel_rfl) rfl ?_
      intro ac828 En829
      refine any_pureR (d := some 60) En829 (v := .slice a_b (List.length b) c_b) 29 (by kernel_rfl) (by kernel_rfl) rfl ?_
      intro ac830 En831
      refine any_ways [23, 25, 30] (by kernel_rfl) rfl ?_
      refine ⟨?_, ?_, ?_, trivial⟩
      · rintro _ rfl
        refine op_loadaggbox (d := some 54) (t := 22) (b := bk1) (off := 0) (k := 1) (m := 32) (xs := bys k) En831 (by kernel_rfl) Hv817 rfl (load_whole (bys_lenh n_k)) (bys_lenh n_k) (by kernel_rfl) (by kernel_rfl) ?_
        intro ac832 En833
        exact any_to hG (by kernel_rfl) (nd761 _ _ (En833.sub (by kernel_rfl)) (Hv817.pick [0, 1, 2, 3] (by kernel_rfl) (by decide)))
      · rintro _ rfl
        refine op_loadaggbox (d := some 56) (t := 24) (b := bk6) (off := 0) (k := 2) (m := 12) (xs := bys n) En831 (by kernel_rfl) Hv817 rfl (load_whole (bys_lenh n_n)) (bys_lenh n_n) (by kernel_rfl) (by kernel_rfl) ?_
        intro ac834 En835
        exact any_to hG (by kernel_rfl) (nd770 _ _ (En835.sub (by kernel_rfl)) (Hv817.pick [0, 1, 2, 3] (by kernel_rfl) (by decide)))
      · rintro _ rfl
        refine op_str (d := some 61) (src := 25) (dst := 9) (e := 5) (ao := a_b) (cap := c_b) (p := List.length b) (bs := b) En831 (by kernel_rfl) rfl (by kernel_rfl) (by kernel_rfl) (by kernel_rfl) (i_b.ev Hv817).reads i_b.nz ?_
        intro ac836 En837
        exact any_to hG (by kernel_rfl) (nd779 _ _ (En837.sub (by kernel_rfl)) (Hv817.pick [0, 1, 2, 3] (by kernel_rfl) (by decide)))
    have nd838 : ∀ (ac : Act) (wo : World), Env ac 64 [(1, .int .u32 ((UInt32.toNat c : Nat) : Int)), (3, .slice a_b (List.length b) c_b), (4, .pointer (some ⟨bk1, 0, none⟩)), (6, .pointer (some ⟨bk6, 0, none⟩)), (8, .bool false), (10, .slice ao29 (List.length b) cp30), (11, .slice aoq47 (List.length (streamF k c n b)) coq47), (35, .bool true), (39, .agg (List.toArray (bys (blockF k c n)))), (40, .agg (List.toArray (bys k))), (41, .int .u32 ((UInt32.toNat c : Nat) : Int))] → Ev w [] wo [.vec aoq47 coq47 1 (bys (streamF k c n b)) 5, .box bk1 (bys k) 22, .box bk6 (bys n) 24, .vec ao29 cp30 1 (bys b) 5] → G 23 #[true, true, true, true, true, true, true, true, true, true, true, false, false, false, false, false, false, false, false, false, false, false, false, false, false, false, false, false, false, false, false, false, false, false] ac wo := by
      intro ac839 wo840 En841 Hv842
      refine any_from hG ?_
      refine any_at 11 (by kernel_rfl) rfl ?_
      refine op_loadaggbox (d := some 42) (t := 24) (b := bk6) (off := 0) (k := 2) (m := 12) (xs := bys n) En841 (by kernel_rfl) Hv842 rfl (load_whole (bys_lenh n_n)) (bys_lenh n_n) (by kernel_rfl) (by kernel_rfl) ?_
      intro ac843 En844
      refine any_at 12 (by kernel_rfl) rfl ?_
      have hM845 : Heap wo840 [] := Hv842.heap.pick [] (by kernel_rfl) (by decide)
      refine op_call (d := some 43) (f := 12) (args := #[.agg (List.toArray (bys k)), .int .u32 ((UInt32.toNat c : Nat) : Int), .agg (List.toArray (bys n))]) En844 (by kernel_rfl) ((block_ref _ k n_k c n n_n).mono ?_)
      rintro _ wo847 ⟨rfl, he850⟩
      refine ⟨_, rfl, ?_⟩
      intro ac846 En848
      have Hv849 : Ev w [] wo847 [.vec aoq47 coq47 1 (bys (streamF k c n b)) 5, .box bk1 (bys k) 22, .box bk6 (bys n) 24, .vec ao29 cp30 1 (bys b) 5] := Hv842.trans (Ev.call (R := [.vec aoq47 coq47 1 (bys (streamF k c n b)) 5, .box bk1 (bys k) 22, .box bk6 (bys n) 24, .vec ao29 cp30 1 (bys b) 5]) Hv842.heap [0, 1, 2, 3] (by kernel_rfl) (by decide) he850)
      clear hM845 he850
      refine any_pure (d := some 44) (s := nv (eqOp .eql 28 (.tmp 39) (.tmp 43) (.agg (List.toArray (bys (blockF k c n)))) (.agg (List.toArray (bys (blockF k c n)))))) En848 (v := .bool true) 13 (by kernel_rfl) (funext fun _ => run_nv (Go.Dbr.run_is (fun w => Go.Dbr.bys_eqop (a := (.tmp 39)) (b := (.tmp 43)) (e := 5) (m := 64) (by kernel_rfl) (by kernel_rfl) (by kernel_rfl) (by kernel_rfl) (by kernel_rfl) (blockF_len _ _ _) (blockF_len _ _ _) w) (by simp) _)) (by kernel_rfl) rfl ?_
      intro ac851 En852
      refine any_pureR (d := some 45) En852 (v := .bool true) 14 (by kernel_rfl) (by kernel_rfl) rfl ?_
      intro ac853 En854
      refine any_pureR (d := some 46) En854 (v := .bool true) 15 (by kernel_rfl) (by kernel_rfl) rfl ?_
      intro ac855 En856
      refine any_pureR (d := some 47) En856 (v := .slice ao29 (List.length b) cp30) 16 (by kernel_rfl) (by kernel_rfl) rfl ?_
      intro ac857 En858
      refine any_pureR (d := some 49) En858 (v := .slice a_b (List.length b) c_b) 18 (by kernel_rfl) (by kernel_rfl) rfl ?_
      intro ac859 En860
      refine any_two 17 19 (by kernel_rfl) ?_ ?_
      · rintro _ rfl
        refine op_str (d := some 48) (src := 25) (dst := 9) (e := 5) (ao := ao29) (cap := cp30) (p := List.length b) (bs := b) En860 (by kernel_rfl) rfl (by kernel_rfl) (by kernel_rfl) (by kernel_rfl) (Hv849.heap.reads (k := 3) rfl) (bys_vnz Hv849.heap (k := 3) rfl) ?_
        intro ac861 En862
        exact any_to hG (by kernel_rfl) (nd788 _ _ (En862.sub (by kernel_rfl)) (Hv849.pick [0, 1, 2, 3] (by kernel_rfl) (by decide)))
      · rintro _ rfl
        refine op_str (d := some 50) (src := 25) (dst := 9) (e := 5) (ao := a_b) (cap := c_b) (p := List.length b) (bs := b) En860 (by kernel_rfl) rfl (by kernel_rfl) (by kernel_rfl) (by kernel_rfl) (i_b.ev Hv849).reads i_b.nz ?_
        intro ac863 En864
        exact any_to hG (by kernel_rfl) (nd813 _ _ (En864.sub (by kernel_rfl)) (Hv849.pick [0, 1, 2, 3] (by kernel_rfl) (by decide)))
    have nd865 : ∀ (ac : Act) (wo : World), Env ac 64 [(1, .int .u32 ((UInt32.toNat c : Nat) : Int)), (3, .slice a_b (List.length b) c_b), (4, .pointer (some ⟨bk1, 0, none⟩)), (6, .pointer (some ⟨bk6, 0, none⟩)), (8, .bool false), (10, .slice ao29 (List.length b) cp30), (11, .slice aoq47 (List.length (streamF k c n b)) coq47), (35, .bool true), (39, .agg (List.toArray (bys (blockF k c n)))), (41, .int .u32 ((UInt32.toNat c : Nat) : Int)), (42, .agg (List.toArray (bys n)))] → Ev w [] wo [.vec aoq47 coq47 1 (bys (streamF k c n b)) 5, .box bk1 (bys k) 22, .box bk6 (bys n) 24, .vec ao29 cp30 1 (bys b) 5] → G 23 #[true, true, true, true, true, true, true, true, true, false, true, true, false, false, false, false, false, false, false, false, false, false, false, false, false, false, false, false, false, false, false, false, false, false] ac wo := by
      intro ac866 wo867 En868 Hv869
      refine any_from hG ?_
      refine any_at 9 (by kernel_rfl) rfl ?_
      refine op_loadaggbox (d := some 40) (t := 22) (b := bk1) (off := 0) (k := 1) (m := 32) (xs := bys k) En868 (by kernel_rfl) Hv869 rfl (load_whole (bys_lenh n_k)) (bys_lenh n_k) (by kernel_rfl) (by kernel_rfl) ?_
      intro ac870 En871
      refine any_at 12 (by kernel_rfl) rfl ?_
      have hM872 : Heap wo867 [] := Hv869.heap.pick [] (by kernel_rfl) (by decide)
      refine op_call (d := some 43) (f := 12) (args := #[.agg (List.toArray (bys k)), .int .u32 ((UInt32.toNat c : Nat) : Int), .agg (List.toArray (bys n))]) En871 (by kernel_rfl) ((block_ref _ k n_k c n n_n).mono ?_)
      rintro _ wo874 ⟨rfl, he877⟩
      refine ⟨_, rfl, ?_⟩
      intro ac873 En875
      have Hv876 : Ev w [] wo874 [.vec aoq47 coq47 1 (bys (streamF k c n b)) 5, .box bk1 (bys k) 22, .box bk6 (bys n) 24, .vec ao29 cp30 1 (bys b) 5] := Hv869.trans (Ev.call (R := [.vec aoq47 coq47 1 (bys (streamF k c n b)) 5, .box bk1 (bys k) 22, .box bk6 (bys n) 24, .vec ao29 cp30 1 (bys b) 5]) Hv869.heap [0, 1, 2, 3] (by kernel_rfl) (by decide) he877)
      clear hM872 he877
      refine any_pure (d := some 44) (s := nv (eqOp .eql 28 (.tmp 39) (.tmp 43) (.agg (List.toArray (bys (blockF k c n)))) (.agg (List.toArray (bys (blockF k c n)))))) En875 (v := .bool true) 13 (by kernel_rfl) (funext fun _ => run_nv (Go.Dbr.run_is (fun w => Go.Dbr.bys_eqop (a := (.tmp 39)) (b := (.tmp 43)) (e := 5) (m := 64) (by kernel_rfl) (by kernel_rfl) (by kernel_rfl) (by kernel_rfl) (by kernel_rfl) (blockF_len _ _ _) (blockF_len _ _ _) w) (by simp) _)) (by kernel_rfl) rfl ?_
      intro ac878 En879
      refine any_pureR (d := some 45) En879 (v := .bool true) 14 (by kernel_rfl) (by kernel_rfl) rfl ?_
      intro ac880 En881
      refine any_pureR (d := some 46) En881 (v := .bool true) 15 (by kernel_rfl) (by kernel_rfl) rfl ?_
      intro ac882 En883
      refine any_pureR (d := some 47) En883 (v := .slice ao29 (List.length b) cp30) 16 (by kernel_rfl) (by kernel_rfl) rfl ?_
      intro ac884 En885
      refine any_pureR (d := some 49) En885 (v := .slice a_b (List.length b) c_b) 18 (by kernel_rfl) (by kernel_rfl) rfl ?_
      intro ac886 En887
      refine any_two 17 19 (by kernel_rfl) ?_ ?_
      · rintro _ rfl
        refine op_str (d := some 48) (src := 25) (dst := 9) (e := 5) (ao := ao29) (cap := cp30) (p := List.length b) (bs := b) En887 (by kernel_rfl) rfl (by kernel_rfl) (by kernel_rfl) (by kernel_rfl) (Hv876.heap.reads (k := 3) rfl) (bys_vnz Hv876.heap (k := 3) rfl) ?_
        intro ac888 En889
        exact any_to hG (by kernel_rfl) (nd788 _ _ (En889.sub (by kernel_rfl)) (Hv876.pick [0, 1, 2, 3] (by kernel_rfl) (by decide)))
      · rintro _ rfl
        refine op_str (d := some 50) (src := 25) (dst := 9) (e := 5) (ao := a_b) (cap := c_b) (p := List.length b) (bs := b) En887 (by kernel_rfl) rfl (by kernel_rfl) (by kernel_rfl) (by kernel_rfl) (i_b.ev Hv876).reads i_b.nz ?_
        intro ac890 En891
        exact any_to hG (by kernel_rfl) (nd813 _ _ (En891.sub (by kernel_rfl)) (Hv876.pick [0, 1, 2, 3] (by kernel_rfl) (by decide)))
    have nd892 : ∀ (ac : Act) (wo : World), Env ac 64 [(1, .int .u32 ((UInt32.toNat c : Nat) : Int)), (3, .slice a_b (List.length b) c_b), (4, .pointer (some ⟨bk1, 0, none⟩)), (6, .pointer (some ⟨bk6, 0, none⟩)), (8, .bool false), (10, .slice ao29 (List.length b) cp30), (11, .slice aoq47 (List.length (streamF k c n b)) coq47), (35, .bool true), (36, .agg (List.toArray (bys k))), (37, .int .u32 ((UInt32.toNat c : Nat) : Int)), (38, .agg (List.toArray (bys n))), (40, .agg (List.toArray (bys k))), (41, .int .u32 ((UInt32.toNat c : Nat) : Int)), (42, .agg (List.toArray (bys n)))] → Ev w [] wo [.vec aoq47 coq47 1 (bys (streamF k c n b)) 5, .box bk1 (bys k) 22, .box bk6 (bys n) 24, .vec ao29 cp30 1 (bys b) 5] → G 23 #[true, true, true, true, true, true, true, true, false, true, true, true, false, false, false, false, false, false, false, false, false, false, false, false, false, false, false, false, false, false, false, false, false, false] ac wo := by
      intro ac893 wo894 En895 Hv896
      refine any_from hG ?_
      refine any_at 8 (by kernel_rfl) rfl ?_
      have hM897 : Heap wo894 [] := Hv896.heap.pick [] (by kernel_rfl) (by decide)
      refine op_call (d := some 39) (f := 11) (args := #[.agg (List.toArray (bys k)), .int .u32 ((UInt32.toNat c : Nat) : Int), .agg (List.toArray (bys n))]) En895 (by kernel_rfl) ((block_go _ k n_k c n n_n).mono ?_)
      rintro _ wo899 ⟨rfl, he902⟩
      refine ⟨_, rfl, ?_⟩
      intro ac898 En900
      have Hv901 : Ev w [] wo899 [.vec aoq47 coq47 1 (bys (streamF k c n b)) 5, .box bk1 (bys k) 22, .box bk6 (bys n) 24, .vec ao29 cp30 1 (bys b) 5] := Hv896.trans (Ev.call (R := [.vec aoq47 coq47 1 (bys (streamF k c n b)) 5, .box bk1 (bys k) 22, .box bk6 (bys n) 24, .vec ao29 cp30 1 (bys b) 5]) Hv896.heap [0, 1, 2, 3] (by kernel_rfl) (by decide) he902)
      clear hM897 he902
      refine any_at 12 (by kernel_rfl) rfl ?_
      have hM903 : Heap wo899 [] := Hv901.heap.pick [] (by kernel_rfl) (by decide)
      refine op_call (d := some 43) (f := 12) (args := #[.agg (List.toArray (bys k)), .int .u32 ((UInt32.toNat c : Nat) : Int), .agg (List.toArray (bys n))]) En900 (by kernel_rfl) ((block_ref _ k n_k c n n_n).mono ?_)
      rintro _ wo905 ⟨rfl, he908⟩
      refine ⟨_, rfl, ?_⟩
      intro ac904 En906
      have Hv907 : Ev w [] wo905 [.vec aoq47 coq47 1 (bys (streamF k c n b)) 5, .box bk1 (bys k) 22, .box bk6 (bys n) 24, .vec ao29 cp30 1 (bys b) 5] := Hv901.trans (Ev.call (R := [.vec aoq47 coq47 1 (bys (streamF k c n b)) 5, .box bk1 (bys k) 22, .box bk6 (bys n) 24, .vec ao29 cp30 1 (bys b) 5]) Hv901.heap [0, 1, 2, 3] (by kernel_rfl) (by decide) he908)
      clear hM903 he908
      refine any_pure (d := some 44) (s := nv (eqOp .eql 28 (.tmp 39) (.tmp 43) (.agg (List.toArray (bys (blockF k c n)))) (.agg (List.toArray (bys (blockF k c n)))))) En906 (v := .bool true) 13 (by kernel_rfl) (funext fun _ => run_nv (Go.Dbr.run_is (fun w => Go.Dbr.bys_eqop (a := (.tmp 39)) (b := (.tmp 43)) (e := 5) (m := 64) (by kernel_rfl) (by kernel_rfl) (by kernel_rfl) (by kernel_rfl) (by kernel_rfl) (blockF_len _ _ _) (blockF_len _ _ _) w) (by simp) _)) (by kernel_rfl) rfl ?_
      intro ac909 En910
      refine any_pureR (d := some 45) En910 (v := .bool true) 14 (by kernel_rfl) (by kernel_rfl) rfl ?_
      intro ac911 En912
      refine any_pureR (d := some 46) En912 (v := .bool true) 15 (by kernel_rfl) (by kernel_rfl) rfl ?_
      intro ac913 En914
      refine any_pureR (d := some 47) En914 (v := .slice ao29 (List.length b) cp30) 16 (by kernel_rfl) (by kernel_rfl) rfl ?_
      intro ac915 En916
      refine any_pureR (d := some 49) En916 (v := .slice a_b (List.length b) c_b) 18 (by kernel_rfl) (by kernel_rfl) rfl ?_
      intro ac917 En918
      refine any_two 17 19 (by kernel_rfl) ?_ ?_
      · rintro _ rfl
        refine op_str (d := some 48) (src := 25) (dst := 9) (e := 5) (ao := ao29) (cap := cp30) (p := List.length b) (bs := b) En918 (by kernel_rfl) rfl (by kernel_rfl) (by kernel_rfl) (by kernel_rfl) (Hv907.heap.reads (k := 3) rfl) (bys_vnz Hv907.heap (k := 3) rfl) ?_
        intro ac919 En920
        exact any_to hG (by kernel_rfl) (nd788 _ _ (En920.sub (by kernel_rfl)) (Hv907.pick [0, 1, 2, 3] (by kernel_rfl) (by decide)))
      · rintro _ rfl
        refine op_str (d := some 50) (src := 25) (dst := 9) (e := 5) (ao := a_b) (cap := c_b) (p := List.length b) (bs := b) En918 (by kernel_rfl) rfl (by kernel_rfl) (by kernel_rfl) (by kernel_rfl) (i_b.ev Hv907).reads i_b.nz ?_
        intro ac921 En922
        exact any_to hG (by kernel_rfl) (nd813 _ _ (En922.sub (by kernel_rfl)) (Hv907.pick [0, 1, 2, 3] (by kernel_rfl) (by decide)))
    have nd923 : ∀ (ac : Act) (wo : World), Env ac 64 [(1, .int .u32 ((UInt32.toNat c : Nat) : Int)), (3, .slice a_b (List.length b) c_b), (4, .pointer (some ⟨bk1, 0, none⟩)), (6, .pointer (some ⟨bk6, 0, none⟩)), (8, .bool false), (10, .slice ao29 (List.length b) cp30), (11, .slice aoq47 (List.length (streamF k c n b)) coq47), (35, .bool true), (39, .agg (List.toArray (bys (blockF k c n)))), (41, .int .u32 ((UInt32.toNat c : Nat) : Int))] → Ev w [] wo [.vec aoq47 coq47 1 (bys (streamF k c n b)) 5, .box bk1 (bys k) 22, .box bk6 (bys n) 24, .vec ao29 cp30 1 (bys b) 5] → G 24 #[true, true, true, true, true, true, true, true, true, false, true, false, false, false, false, false, false, false, false, false, false, false, false, false, false, false, false, false, false, false, false, false, false, false] ac wo := by
      intro ac924 wo925 En926 Hv927
      refine any_from hG ?_
      refine any_two 9 11 (by kernel_rfl) ?_ ?_
      · rintro _ rfl
        refine op_loadaggbox (d := some 40) (t := 22) (b := bk1) (off := 0) (k := 1) (m := 32) (xs := bys k) En926 (by kernel_rfl) Hv927 rfl (load_whole (bys_lenh n_k)) (bys_lenh n_k) (by kernel_rfl) (by kernel_rfl) ?_
        intro ac928 En929
        exact any_to hG (by kernel_rfl) (nd838 _ _ (En929.sub (by kernel_rfl)) (Hv927.pick [0, 1, 2, 3] (by kernel_rfl) (by decide)))
      · rintro _ rfl
        refine op_loadaggbox (d := some 42) (t := 24) (b := bk6) (off := 0) (k := 2) (m := 12) (xs := bys n) En926 (by kernel_rfl) Hv927 rfl (load_whole (bys_lenh n_n)) (bys_lenh n_n) (by kernel_rfl) (by kernel_rfl) ?_
        intro ac930 En931
        exact any_to hG (by kernel_rfl) (nd865 _ _ (En931.sub (by kernel_rfl)) (Hv927.pick [0, 1, 2, 3] (by kernel_rfl) (by decide)))
    have nd932 : ∀ (ac : Act) (wo : World), Env ac 64 [(1, .int .u32 ((UInt32.toNat c : Nat) : Int)), (3, .slice a_b (List.length b) c_b), (4, .pointer (some ⟨bk1, 0, none⟩)), (6, .pointer (some ⟨bk6, 0, none⟩)), (8, .bool false), (10, .slice ao29 (List.length b) cp30), (11, .slice aoq47 (List.length (streamF k c n b)) coq47), (35, .bool true), (36, .agg (List.toArray (bys k))), (37, .int .u32 ((UInt32.toNat c : Nat) : Int)), (38, .agg (List.toArray (bys n))), (40, .agg (List.toArray (bys k))), (41, .int .u32 ((UInt32.toNat c : Nat) : Int))] → Ev w [] wo [.vec aoq47 coq47 1 (bys (streamF k c n b)) 5, .box bk1 (bys k) 22, .box bk6 (bys n) 24, .vec ao29 cp30 1 (bys b) 5] → G 24 #[true, true, true, true, true, true, true, true, false, true, true, false, false, false, false, false, false, false, false, false, false, false, false, false, false, false, false, false, false, false, false, false, false, false] ac wo := by
      intro ac933 wo934 En935 Hv936
      refine any_from hG ?_
      refine any_two 8 11 (by kernel_rfl) ?_ ?_
      · rintro _ rfl
        have hM937 : Heap wo934 [] := Hv936.heap.pick [] (by kernel_rfl) (by decide)
        refine op_call (d := some 39) (f := 11) (args := #[.agg (List.toArray (bys k)), .int .u32 ((UInt32.toNat c : Nat) : Int), .agg (List.toArray (bys n))]) En935 (by kernel_rfl) ((block_go _ k n_k c n n_n).mono ?_)
        rintro _ wo939 ⟨rfl, he942⟩
        refine ⟨_, rfl, ?_⟩
        intro ac938 En940
        have Hv941 : Ev w [] wo939 [.vec aoq47 coq47 1 (bys (streamF k c n b)) 5, .box bk1 (bys k) 22, .box bk6 (bys n) 24, .vec ao29 cp30 1 (bys b) 5] := Hv936.trans (Ev.call (R := [.vec aoq47 coq47 1 (bys (streamF k c n b)) 5, .box bk1 (bys k) 22, .box bk6 (bys n) 24, .vec ao29 cp30 1 (bys b) 5]) Hv936.heap [0, 1, 2, 3] (by kernel_rfl) (by decide) he942)
        clear hM937 he942
        exact any_to hG (by kernel_rfl) (nd838 _ _ (En940.sub (by kernel_rfl)) (Hv941.pick [0, 1, 2, 3] (by kernel_rfl) (by decide)))
      · rintro _ rfl
        refine op_loadaggbox (d := some 42) (t := 24) (b := bk6) (off := 0) (k := 2) (m := 12) (xs := bys n) En935 (by kernel_rfl) Hv936 rfl (load_whole (bys_lenh n_n)) (bys_lenh n_n) (by kernel_rfl) (by kernel_rfl) ?_
        intro ac943 En944
        exact any_to hG (by kernel_rfl) (nd892 _ _ (En944.sub (by kernel_rfl)) (Hv936.pick [0, 1, 2, 3] (by kernel_rfl) (by decide)))
    have nd945 : ∀ (ac : Act) (wo : World), Env ac 64 [(1, .int .u32 ((UInt32.toNat c : Nat) : Int)), (3, .slice a_b (List.length b) c_b), (4, .pointer (some ⟨bk1, 0, none⟩)), (6, .pointer (some ⟨bk6, 0, none⟩)), (8, .bool false), (10, .slice ao29 (List.length b) cp30), (11, .slice aoq47 (List.length (streamF k c n b)) coq47), (35, .bool true), (36, .agg (List.toArray (bys k))), (37, .int .u32 ((UInt32.toNat c : Nat) : Int)), (38, .agg (List.toArray (bys n))), (41, .int .u32 ((UInt32.toNat c : Nat) : Int)), (42, .agg (List.toArray (bys n)))] → Ev w [] wo [.vec aoq47 coq47 1 (bys (streamF k c n b)) 5, .box bk1 (bys k) 22, .box bk6 (bys n) 24, .vec ao29 cp30 1 (bys b) 5] → G 24 #[true, true, true, true, true, true, true, true, false, false, true, true, false, false, false, false, false, false, false, false, false, false, false, false, false, false, false, false, false, false, false, false, false, false] ac wo := by
      intro ac946 wo947 En948 Hv949
      refine any_from hG ?_
      refine any_two 8 9 (by kernel_rfl) ?_ ?_
      · rintro _ rfl
        have hM950 : Heap wo947 [] := Hv949.heap.pick [] (by kernel_rfl) (by decide)
        refine op_call (d := some 39) (f := 11) (args := #[.agg (List.toArray (bys k)), .int .u32 ((UInt32.toNat c : Nat) : Int), .agg (List.toArray (bys n))]) En948 (by kernel_rfl) ((block_go _ k n_k c n n_n).mono ?_)
        rintro _ wo952 ⟨rfl, he955⟩
        refine ⟨_, rfl, ?_⟩
        intro ac951 En953
        have Hv954 : Ev w [] wo952 [.vec aoq47 coq47 1 (bys (streamF k c n b)) 5, .box bk1 (bys k) 22, .box bk6 (bys n) 24, .vec ao29 cp30 1 (bys b) 5] := Hv949.trans (Ev.call (R := [.vec aoq47 coq47 1 (bys (streamF k c n b)) 5, .box bk1 (bys k) 22, .box bk6 (bys n) 24, .vec ao29 cp30 1 (bys b) 5]) Hv949.heap [0, 1, 2, 3] (by kernel_rfl) (by decide) he955)
        clear hM950 he955
        exact any_to hG (by kernel_rfl) (nd865 _ _ (En953.sub (by kernel_rfl)) (Hv954.pick [0, 1, 2, 3] (by kernel_rfl) (by decide)))
      · rintro _ rfl
        refine op_loadaggbox (d := some 40) (t := 22) (b := bk1) (off := 0) (k := 1) (m := 32) (xs := bys k) En948 (by kernel_rfl) Hv949 rfl (load_whole (bys_lenh n_k)) (bys_lenh n_k) (by kernel_rfl) (by kernel_rfl) ?_
        intro ac956 En957
        exact any_to hG (by kernel_rfl) (nd892 _ _ (En957.sub (by kernel_rfl)) (Hv949.pick [0, 1, 2, 3] (by kernel_rfl) (by decide)))
    have nd958 : ∀ (ac : Act) (wo : World), Env ac 64 [(1, .int .u32 ((UInt32.toNat c : Nat) : Int)), (3, .slice a_b (List.length b) c_b), (4, .pointer (some ⟨bk1, 0, none⟩)), (6, .pointer (some ⟨bk6, 0, none⟩)), (8, .bool false), (10, .slice ao29 (List.length b) cp30), (11, .slice aoq47 (List.length (streamF k c n b)) coq47), (35, .bool true), (36, .agg (List.toArray (bys k))), (37, .int .u32 ((UInt32.toNat c : Nat) : Int)), (40, .agg (List.toArray (bys k))), (41, .int .u32 ((UInt32.toNat c : Nat) : Int)), (42, .agg (List.toArray (bys n)))] → Ev w [] wo [.vec aoq47 coq47 1 (bys (streamF k c n b)) 5, .box bk1 (bys k) 22, .box bk6 (bys n) 24, .vec ao29 cp30 1 (bys b) 5] → G 24 #[true, true, true, true, true, true, true, false, false, true, true, true, false, false, false, false, false, false, false, false, false, false, false, false, false, false, false, false, false, false, false, false, false, false] ac wo := by
      intro ac959 wo960 En961 Hv962
      refine any_from hG ?_
      refine any_at 7 (by kernel_rfl) rfl ?_
      refine op_loadaggbox (d := some 38) (t := 24) (b := bk6) (off := 0) (k := 2) (m := 12) (xs := bys n) En961 (by kernel_rfl) Hv962 rfl (load_whole (bys_lenh n_n)) (bys_lenh n_n) (by kernel_rfl) (by kernel_rfl) ?_
      intro ac963 En964
      refine any_at 8 (by kernel_rfl) rfl ?_
      have hM965 : Heap wo960 [] := Hv962.heap.pick [] (by kernel_rfl) (by decide)
      refine op_call (d := some 39) (f := 11) (args := #[.agg (List.toArray (bys k)), .int .u32 ((UInt32.toNat c : Nat) : Int), .agg (List.toArray (bys n))]) En964 (by kernel_rfl) ((block_go _ k n_k c n n_n).mono ?_)
      rintro _ wo967 ⟨rfl, he970⟩
      refine ⟨_, rfl, ?_⟩
      intro ac966 En968
      have Hv969 : Ev w [] wo967 [.vec aoq47 coq47 1 (bys (streamF k c n b)) 5, .box bk1 (bys k) 22, .box bk6 (bys n) 24, .vec ao29 cp30 1 (bys b) 5] := Hv962.trans (Ev.call (R := [.vec aoq47 coq47 1 (bys (streamF k c n b)) 5, .box bk1 (bys k) 22, .box bk6 (bys n) 24, .vec ao29 cp30 1 (bys b) 5]) Hv962.heap [0, 1, 2, 3] (by kernel_rfl) (by decide) he970)
      clear hM965 he970
      refine any_at 12 (by kernel_rfl) rfl ?_
      have hM971 : Heap wo967 [] := Hv969.heap.pick [] (by kernel_rfl) (by decide)
      refine op_call (d := some 43) (f := 12) (args := #[.agg (List.toArray (bys k)), .int .u32 ((UInt32.toNat c : Nat) : Int), .agg (List.toArray (bys n))]) En968 (by kernel_rfl) ((block_ref _ k n_k c n n_n).mono ?_)
      rintro _ wo973 ⟨rfl, he976⟩
      refine ⟨_, rfl, ?_⟩
      intro ac972 En974
      have Hv975 : Ev w [] wo973 [.vec aoq47 coq47 1 (bys (streamF k c n b)) 5, .box bk1 (bys k) 22, .box bk6 (bys n) 24, .vec ao29 cp30 1 (bys b) 5] := Hv969.trans (Ev.call (R := [.vec aoq47 coq47 1 (bys (streamF k c n b)) 5, .box bk1 (bys k) 22, .box bk6 (bys n) 24, .vec ao29 cp30 1 (bys b) 5]) Hv969.heap [0, 1, 2, 3] (by kernel_rfl) (by decide) he976)
      clear hM971 he976
      refine any_pure (d := some 44) (s := nv (eqOp .eql 28 (.tmp 39) (.tmp 43) (.agg (List.toArray (bys (blockF k c n)))) (.agg (List.toArray (bys (blockF k c n)))))) En974 (v := .bool true) 13 (by kernel_rfl) (funext fun _ => run_nv (Go.Dbr.run_is (fun w => Go.Dbr.bys_eqop (a := (.tmp 39)) (b := (.tmp 43)) (e := 5) (m := 64) (by kernel_rfl) (by kernel_rfl) (by kernel_rfl) (by kernel_rfl) (by kernel_rfl) (blockF_len _ _ _) (blockF_len _ _ _) w) (by simp) _)) (by kernel_rfl) rfl ?_
      intro ac977 En978
      refine any_pureR (d := some 45) En978 (v := .bool true) 14 (by kernel_rfl) (by kernel_rfl) rfl ?_
      intro ac979 En980
      refine any_pureR (d := some 46) En980 (v := .bool true) 15 (by kernel_rfl) (by kernel_rfl) rfl ?_
      intro ac981 En982
      refine any_pureR (d := some 47) En982 (v := .slice ao29 (List.length b) cp30) 16 (by kernel_rfl) (by kernel_rfl) rfl ?_
      intro ac983 En984
      refine any_pureR (d := some 49) En984 (v := .slice a_b (List.length b) c_b) 18 (by kernel_rfl) (by kernel_rfl) rfl ?_
      intro ac985 En986
      refine any_two 17 19 (by kernel_rfl) ?_ ?_
      · rintro _ rfl
        refine op_str (d := some 48) (src := 25) (dst := 9) (e := 5) (ao := ao29) (cap := cp30) (p := List.length b) (bs := b) En986 (by kernel_rfl) rfl (by kernel_rfl) (by kernel_rfl) (by kernel_rfl) (Hv975.heap.reads (k := 3) rfl) (bys_vnz Hv975.heap (k := 3) rfl) ?_
        intro ac987 En988
        exact any_to hG (by kernel_rfl) (nd788 _ _ (En988.sub (by kernel_rfl)) (Hv975.pick [0, 1, 2, 3] (by kernel_rfl) (by decide)))
      · rintro _ rfl
        refine op_str (d := some 50) (src := 25) (dst := 9) (e := 5) (ao := a_b) (cap := c_b) (p := List.length b) (bs := b) En986 (by kernel_rfl) rfl (by kernel_rfl) (by kernel_rfl) (by kernel_rfl) (i_b.ev Hv975).reads i_b.nz ?_
        intro ac989 En990
        exact any_to hG (by kernel_rfl) (nd813 _ _ (En990.sub (by kernel_rfl)) (Hv975.pick [0, 1, 2, 3] (by kernel_rfl) (by decide)))
    have nd991 : ∀ (ac : Act) (wo : World), Env ac 64 [(1, .int .u32 ((UInt32.toNat c : Nat) : Int)), (3, .slice a_b (List.length b) c_b), (4, .pointer (some ⟨bk1, 0, none⟩)), (6, .pointer (some ⟨bk6, 0, none⟩)), (8, .bool false), (10, .slice ao29 (List.length b) cp30), (11, .slice aoq47 (List.length (streamF k c n b)) coq47), (35, .bool true), (37, .int .u32 ((UInt32.toNat c : Nat) : Int)), (38, .agg (List.toArray (bys n))), (40, .agg (List.toArray (bys k))), (41, .int .u32 ((UInt32.toNat c : Nat) : Int)), (42, .agg (List.toArray (bys n)))] → Ev w [] wo [.vec aoq47 coq47 1 (bys (streamF k c n b)) 5, .box bk1 (bys k) 22, .box bk6 (bys n) 24, .vec ao29 cp30 1 (bys b) 5] → G 24 #[true, true, true, true, true, false, true, true, false, true, true, true, false, false, false, false, false, false, false, false, false, false, false, false, false, false, false, false, false, false, false, false, false, false] ac wo := by
      intro ac992 wo993 En994 Hv995
      refine any_from hG ?_
      refine any_at 5 (by kernel_rfl) rfl ?_
      refine op_loadaggbox (d := some 36) (t := 22) (b := bk1) (off := 0) (k := 1) (m := 32) (xs := bys k) En994 (by kernel_rfl) Hv995 rfl (load_whole (bys_lenh n_k)) (bys_lenh n_k) (by kernel_rfl) (by kernel_rfl) ?_
      intro ac996 En997
      refine any_at 8 (by kernel_rfl) rfl ?_
      have hM998 : Heap wo993 [] := Hv995.heap.pick [] (by kernel_rfl) (by decide)
      refine op_call (d := some 39) (f := 11) (args := #[.agg (List.toArray (bys k)), .int .u32 ((UInt32.toNat c : Nat) : Int), .agg (List.toArray (bys n))]) En997 (by kernel_rfl) ((block_go _ k n_k c n n_n).mono ?_)
      rintro _ wo1000 ⟨rfl, he1003⟩
      refine ⟨_, rfl, ?_⟩
      intro ac999 En1001
      have Hv1002 : Ev w [] wo1000 [.vec aoq47 coq47 1 (bys (streamF k c n b)) 5, .box bk1 (bys k) 22, .box bk6 (bys n) 24, .vec ao29 cp30 1 (bys b) 5] := Hv995.trans (Ev.call (R := [.vec aoq47 coq47 1 (bys (streamF k c n b)) 5, .box bk1 (bys k) 22, .box bk6 (bys n) 24, .vec ao29 cp30 1 (bys b) 5]) Hv995.heap [0, 1, 2, 3] (by kernel_rfl) (by decide) he1003)
      clear hM998 he1003
      refine any_at 12 (by kernel_rfl) rfl ?_
      have hM1004 : Heap wo1000 [] := Hv1002.heap.pick [] (by kernel_rfl) (by decide)
      refine op_call (d := some 43) (f := 12) (args := #[.agg (List.toArray (bys k)), .int .u32 ((UInt32.toNat c : Nat) : Int), .agg (List.toArray (bys n))]) En1001 (by kernel_rfl) ((block_ref _ k n_k c n n_n).mono ?_)
      rintro _ wo1006 ⟨rfl, he1009⟩
      refine ⟨_, rfl, ?_⟩
      intro ac1005 En1007
      have Hv1008 : Ev w [] wo1006 [.vec aoq47 coq47 1 (bys (streamF k c n b)) 5, .box bk1 (bys k) 22, .box bk6 (bys n) 24, .vec ao29 cp30 1 (bys b) 5] := Hv1002.trans (Ev.call (R := [.vec aoq47 coq47 1 (bys (streamF k c n b)) 5, .box bk1 (bys k) 22, .box bk6 (bys n) 24, .vec ao29 cp30 1 (bys b) 5]) Hv1002.heap [0, 1, 2, 3] (by kernel_rfl) (by decide) he1009)
      clear hM1004 he1009
      refine any_pure (d := some 44) (s := nv (eqOp .eql 28 (.tmp 39) (.tmp 43) (.agg (List.toArray (bys (blockF k c n)))) (.agg (List.toArray (bys (blockF k c n)))))) En1007 (v := .bool true) 13 (by kernel_rfl) (funext fun _ => run_nv (Go.Dbr.run_is (fun w => Go.Dbr.bys_eqop (a := (.tmp 39)) (b := (.tmp 43)) (e := 5) (m := 64) (by kernel_rfl) (by kernel_rfl) (by kernel_rfl) (by kernel_rfl) (by kernel_rfl) (blockF_len _ _ _) (blockF_len _ _ _) w) (by simp) _)) (by kernel_rfl) rfl ?_
      intro ac1010 En1011
      refine any_pureR (d := some 45) En1011 (v := .bool true) 14 (by kernel_rfl) (by kernel_rfl) rfl ?_
      intro ac1012 En1013
      refine any_pureR (d := some 46) En1013 (v := .bool true) 15 (by kernel_rfl) (by kernel_rfl) rfl ?_
      intro ac1014 En1015
      refine any_pureR (d := some 47) En1015 (v := .slice ao29 (List.length b) cp30) 16 (by kernel_rfl) (by kernel_rfl) rfl ?_
      intro ac1016 En1017
      refine any_pureR (d := some 49) En1017 (v := .slice a_b (List.length b) c_b) 18 (by kernel_rfl) (by kernel_rfl) rfl ?_
      intro ac1018 En1019
      refine any_two 17 19 (by kernel_rfl) ?_ ?_
      · rintro _ rfl
        refine op_str (d := some 48) (src := 25) (dst := 9) (e := 5) (ao := ao29) (cap := cp30) (p := List.length b) (bs := b) En1019 (by kernel_rfl) rfl (by kernel_rfl) (by kernel_rfl) (by kernel_rfl) (Hv1008.heap.reads (k := 3) rfl) (bys_vnz Hv1008.heap (k := 3) rfl) ?_
        intro ac1020 En1021
        exact any_to hG (by kernel_rfl) (nd788 _ _ (En1021.sub (by kernel_rfl)) (Hv1008.pick [0, 1, 2, 3] (by kernel_rfl) (by decide)))
      · rintro _ rfl
        refine op_str (d := some 50) (src := 25) (dst := 9) (e := 5) (ao := a_b) (cap := c_b) (p := List.length b) (bs := b) En1019 (by kernel_rfl) rfl (by kernel_rfl) (by kernel_rfl) (by kernel_rfl) (i_b.ev Hv1008).reads i_b.nz ?_
        intro ac1022 En1023
        exact any_to hG (by kernel_rfl) (nd813 _ _ (En1023.sub (by kernel_rfl)) (Hv1008.pick [0, 1, 2, 3] (by kernel_rfl) (by decide)))
    have nd1024 : ∀ (ac : Act) (wo : World), Env ac 64 [(1, .int .u32 ((UInt32.toNat c : Nat) : Int)), (3, .slice a_b (List.length b) c_b), (4, .pointer (some ⟨bk1, 0, none⟩)), (6, .pointer (some ⟨bk6, 0, none⟩)), (8, .bool false), (10, .slice ao29 (List.length b) cp30), (11, .slice aoq47 (List.length (streamF k c n b)) coq47), (35, .bool true), (36, .agg (List.toArray (bys k))), (37, .int .u32 ((UInt32.toNat c : Nat) : Int)), (38, .agg (List.toArray (bys n))), (41, .int .u32 ((UInt32.toNat c : Nat) : Int))] → Ev w [] wo [.vec aoq47 coq47 1 (bys (streamF k c n b)) 5, .box bk1 (bys k) 22, .box bk6 (bys n) 24, .vec ao29 cp30 1 (bys b) 5] → G 25 #[true, true, true, true, true, true, true, true, false, false, true, false, false, false, false, false, false, false, false, false, false, false, false, false, false, false, false, false, false, false, false, false, false, false] ac wo := by
      intro ac1025 wo1026 En1027 Hv1028
      refine any_from hG ?_
      refine any_ways [8, 9, 11] (by kernel_rfl) rfl ?_
      refine ⟨?_, ?_, ?_, trivial⟩
      · rintro _ rfl
        have hM1029 : Heap wo1026 [] := Hv1028.heap.pick [] (by kernel_rfl) (by decide)
        refine op_call (d := some 39) (f := 11) (args := #[.agg (List.toArray (bys k)), .int .u32 ((UInt32.toNat c : Nat) : Int), .agg (List.toArray (bys n))]) En1027 (by kernel_rfl) ((block_go _ k n_k c n n_n).mono ?_)
        rintro _ wo1031 ⟨rfl, he1034⟩
        refine ⟨_, rfl, ?_⟩
        intro ac1030 En1032
        have Hv1033 : Ev w [] wo1031 [.vec aoq47 coq47 1 (bys (streamF k c n b)) 5, .box bk1 (bys k) 22, .box bk6 (bys n) 24, .vec ao29 cp30 1 (bys b) 5] := Hv1028.trans (Ev.call (R := [.vec aoq47 coq47 1 (bys (streamF k c n b)) 5, .box bk1 (bys k) 22, .box bk6 (bys n) 24, .vec ao29 cp30 1 (bys b) 5]) Hv1028.heap [0, 1, 2, 3] (by kernel_rfl) (by decide) he1034)
        clear hM1029 he1034
        exact any_to hG (by kernel_rfl) (nd923 _ _ (En1032.sub (by kernel_rfl)) (Hv1033.pick [0, 1, 2, 3] (by kernel_rfl) (by decide)))
      · rintro _ rfl
        refine op_loadaggbox (d := some 40) (t := 22) (b := bk1) (off := 0) (k := 1) (m := 32) (xs := bys k) En1027 (by kernel_rfl) Hv1028 rfl (load_whole (bys_lenh n_k)) (bys_lenh n_k) (by kernel_rfl) (by kernel_rfl) ?_
        intro ac1035 En1036
        exact any_to hG (by kernel_rfl) (nd932 _ _ (En1036.sub (by kernel_rfl)) (Hv1028.pick [0, 1, 2, 3] (by kernel_rfl) (by decide)))
      · rintro _ rfl
        refine op_loadaggbox (d := some 42) (t := 24) (b := bk6) (off := 0) (k := 2) (m := 12) (xs := bys n) En1027 (by kernel_rfl) Hv1028 rfl (load_whole (bys_lenh n_n)) (bys_lenh n_n) (by kernel_rfl) (by kernel_rfl) ?_
        intro ac1037 En1038
        exact any_to hG (by kernel_rfl) (nd945 _ _ (En1038.sub (by kernel_rfl)) (Hv1028.pick [0, 1, 2, 3] (by kernel_rfl) (by decide)))
    have nd1039 : ∀ (ac : Act) (wo : World), Env ac 64 [(1, .int .u32 ((UInt32.toNat c : Nat) : Int)), (3, .slice a_b (List.length b) c_b), (4, .pointer (some ⟨bk1, 0, none⟩)), (6, .pointer (some ⟨bk6, 0, none⟩)), (8, .bool false), (10, .slice ao29 (List.length b) cp30), (11, .slice aoq47 (List.length (streamF k c n b)) coq47), (35, .bool true), (36, .agg (List.toArray (bys k))), (37, .int .u32 ((UInt32.toNat c : Nat) : Int)), (40, .agg (List.toArray (bys k))), (41, .int .u32 ((UInt32.toNat c : Nat) : Int))] → Ev w [] wo [.vec aoq47 coq47 1 (bys (streamF k c n b)) 5, .box bk1 (bys k) 22, .box bk6 (bys n) 24, .vec ao29 cp30 1 (bys b) 5] → G 25 #[true, true, true, true, true, true, true, false, false, true, true, false, false, false, false, false, false, false, false, false, false, false, false, false, false, false, false, false, false, false, false, false, false, false] ac wo := by
      intro ac1040 wo1041 En1042 Hv1043
      refine any_from hG ?_
      refine any_two 7 11 (by kernel_rfl) ?_ ?_
      · rintro _ rfl
        refine op_loadaggbox (d := some 38) (t := 24) (b := bk6) (off := 0) (k := 2) (m := 12) (xs := bys n) En1042 (by kernel_rfl) Hv1043 rfl (load_whole (bys_lenh n_n)) (bys_lenh n_n) (by kernel_rfl) (by kernel_rfl) ?_
        intro ac1044 En1045
        exact any_to hG (by kernel_rfl) (nd932 _ _ (En1045.sub (by kernel_rfl)) (Hv1043.pick [0, 1, 2, 3] (by kernel_rfl) (by decide)))
      · rintro _ rfl
        refine op_loadaggbox (d := some 42) (t := 24) (b := bk6) (off := 0) (k := 2) (m := 12) (xs := bys n) En1042 (by kernel_rfl) Hv1043 rfl (load_whole (bys_lenh n_n)) (bys_lenh n_n) (by kernel_rfl) (by kernel_rfl) ?_
        intro ac1046 En1047
        exact any_to hG (by kernel_rfl) (nd958 _ _ (En1047.sub (by kernel_rfl)) (Hv1043.pick [0, 1, 2, 3] (by kernel_rfl) (by decide)))
    have nd1048 : ∀ (ac : Act) (wo : World), Env ac 64 [(1, .int .u32 ((UInt32.toNat c : Nat) : Int)), (3, .slice a_b (List.length b) c_b), (4, .pointer (some ⟨bk1, 0, none⟩)), (6, .pointer (some ⟨bk6, 0, none⟩)), (8, .bool false), (10, .slice ao29 (List.length b) cp30), (11, .slice aoq47 (List.length (streamF k c n b)) coq47), (35, .bool true), (36, .agg (List.toArray (bys k))), (37, .int .u32 ((UInt32.toNat c : Nat) : Int)), (41, .int .u32 ((UInt32.toNat c : Nat) : Int)), (42, .agg (List.toArray (bys n)))] → Ev w [] wo [.vec aoq47 coq47 1 (bys (streamF k c n b)) 5, .box bk1 (bys k) 22, .box bk6 (bys n) 24, .vec ao29 cp30 1 (bys b) 5] → G 25 #[true, true, true, true, true, true, true, false, false, false, true, true, false, false, false, false, false, false, false, false, false, false, false, false, false, false, false, false, false, false, false, false, false, false] ac wo := by
      intro ac1049 wo1050 En1051 Hv1052
      refine any_from hG ?_
      refine any_two 7 9 (by kernel_rfl) ?_ ?_
      · rintro _ rfl
        refine op_loadaggbox (d := some 38) (t := 24) (b := bk6) (off := 0) (k := 2) (m := 12) (xs := bys n) En1051 (by kernel_rfl) Hv1052 rfl (load_whole (bys_lenh n_n)) (bys_lenh n_n) (by kernel_rfl) (by kernel_rfl) ?_
        intro ac1053 En1054
        exact any_to hG (by kernel_rfl) (nd945 _ _ (En1054.sub (by kernel_rfl)) (Hv1052.pick [0, 1, 2, 3] (by kernel_rfl) (by decide)))
      · rintro _ rfl
        refine op_loadaggbox (d := some 40) (t := 22) (b := bk1) (off := 0) (k := 1) (m := 32) (xs := bys k) En1051 (by kernel_rfl) Hv1052 rfl (load_whole (bys_lenh n_k)) (bys_lenh n_k) (by kernel_rfl) (by kernel_rfl) ?_
        intro ac1055 En1056
        exact any_to hG (by kernel_rfl) (nd958 _ _ (En1056.sub (by kernel_rfl)) (Hv1052.pick [0, 1, 2, 3] (by kernel_rfl) (by decide)))
    have nd1057 : ∀ (ac : Act) (wo : World), Env ac 64 [(1, .int .u32 ((UInt32.toNat c : Nat) : Int)), (3, .slice a_b (List.length b) c_b), (4, .pointer (some ⟨bk1, 0, none⟩)), (6, .pointer (some ⟨bk6, 0, none⟩)), (8, .bool false), (10, .slice ao29 (List.length b) cp30), (11, .slice aoq47 (List.length (streamF k c n b)) coq47), (35, .bool true), (37, .int .u32 ((UInt32.toNat c : Nat) : Int)), (38, .agg (List.toArray (bys n))), (40, .agg (List.toArray (bys k))), (41, .int .u32 ((UInt32.toNat c : Nat) : Int))] → Ev w [] wo [.vec aoq47 coq47 1 (bys (streamF k c n b)) 5, .box bk1 (bys k) 22, .box bk6 (bys n) 24, .vec ao29 cp30 1 (bys b) 5] → G 25 #[true, true, true, true, true, false, true, true, false, true, true, false, false, false, false, false, false, false, false, false, false, false, false, false, false, false, false, false, false, false, false, false, false, false] ac wo := by
      intro ac1058 wo1059 En1060 Hv1061
      refine any_from hG ?_
      refine any_two 5 11 (by kernel_rfl) ?_ ?_
      · rintro _ rfl
        refine op_loadaggbox (d := some 36) (t := 22) (b := bk1) (off := 0) (k := 1) (m := 32) (xs := bys k) En1060 (by kernel_rfl) Hv1061 rfl (load_whole (bys_lenh n_k)) (bys_lenh n_k) (by kernel_rfl) (by kernel_rfl) ?_
        intro ac1062 En1063
        exact any_to hG (by kernel_rfl) (nd932 _ _ (En1063.sub (by kernel_rfl)) (Hv1061.pick [0, 1, 2, 3] (by kernel_rfl) (by decide)))
      · rintro _ rfl
        refine op_loadaggbox (d := some 42) (t := 24) (b := bk6) (off := 0) (k := 2) (m := 12) (xs := bys n) En1060 (by kernel_rfl) Hv1061 rfl (load_whole (bys_lenh n_n)) (bys_lenh n_n) (by kernel_rfl) (by kernel_rfl) ?_
        intro ac1064 En1065
        exact any_to hG (by kernel_rfl) (nd991 _ _ (En1065.sub (by kernel_rfl)) (Hv1061.pick [0, 1, 2, 3] (by kernel_rfl) (by decide)))
    have nd1066 : ∀ (ac : Act) (wo : World), Env ac 64 [(1, .int .u32 ((UInt32.toNat c : Nat) : Int)), (3, .slice a_b (List.length b) c_b), (4, .pointer (some ⟨bk1, 0, none⟩)), (6, .pointer (some ⟨bk6, 0, none⟩)), (8, .bool false), (10, .slice ao29 (List.length b) cp30), (11, .slice aoq47 (List.length (streamF k c n b)) coq47), (35, .bool true), (37, .int .u32 ((UInt32.toNat c : Nat) : Int)), (38, .agg (List.toArray (bys n))), (41, .int .u32 ((UInt32.toNat c : Nat) : Int)), (42, .agg (List.toArray (bys n)))] → Ev w [] wo [.vec aoq47 coq47 1 (bys (streamF k c n b)) 5, .box bk1 (bys k) 22, .box bk6 (bys n) 24, .vec ao29 cp30 1 (bys b) 5] → G 25 #[true, true, true, true, true, false, true, true, false, false, true, true, false, false, false, false, false, false, false, false, false, false, false, false, false, false, false, false, false, false, false, false, false, false] ac wo := by
      intro ac1067 wo1068 En1069 Hv1070
      refine any_from hG ?_
      refine any_two 5 9 (by kernel_rfl) ?_ ?_
      · rintro _ rfl
        refine op_loadaggbox (d := some 36) (t := 22) (b := bk1) (off := 0) (k := 1) (m := 32) (xs := bys k) En1069 (by kernel_rfl) Hv1070 rfl (load_whole (bys_lenh n_k)) (bys_lenh n_k) (by kernel_rfl) (by kernel_rfl) ?_
        intro ac1071 En1072
        exact any_to hG (by kernel_rfl) (nd945 _ _ (En1072.sub (by kernel_rfl)) (Hv1070.pick [0, 1, 2, 3] (by kernel_rfl) (by decide)))
      · rintro _ rfl
        refine op_loadaggbox (d := some 40) (t := 22) (b := bk1) (off := 0) (k := 1) (m := 32) (xs := bys k) En1069 (by kernel_rfl) Hv1070 rfl (load_whole (bys_lenh n_k)) (bys_lenh n_k) (by kernel_rfl) (by kernel_rfl) ?_
        intro ac1073 En1074
        exact any_to hG (by kernel_rfl) (nd991 _ _ (En1074.sub (by kernel_rfl)) (Hv1070.pick [0, 1, 2, 3] (by kernel_rfl) (by decide)))
    have nd1075 : ∀ (ac : Act) (wo : World), Env ac 64 [(1, .int .u32 ((UInt32.toNat c : Nat) : Int)), (3, .slice a_b (List.length b) c_b), (4, .pointer (some ⟨bk1, 0, none⟩)), (6, .pointer (some ⟨bk6, 0, none⟩)), (8, .bool false), (10, .slice ao29 (List.length b) cp30), (11, .slice aoq47 (List.length (streamF k c n b)) coq47), (35, .bool true), (37, .int .u32 ((UInt32.toNat c : Nat) : Int)), (40, .agg (List.toArray (bys k))), (41, .int .u32 ((UInt32.toNat c : Nat) : Int)), (42, .agg (List.toArray (bys n)))] → Ev w [] wo [.vec aoq47 coq47 1 (bys (streamF k c n b)) 5, .box bk1 (bys k) 22, .box bk6 (bys n) 24, .vec ao29 cp30 1 (bys b) 5] → G 25 #[true, true, true, true, true, false, true, false, false, true, true, true, false, false, false, false, false, false, false, false, false, false, false, false, false, false, false, false, false, false, false, false, false, false] ac wo := by
      intro ac1076 wo1077 En1078 Hv1079
      refine any_from hG ?_
      refine any_two 5 7 (by kernel_rfl) ?_ ?_
      · rintro _ rfl
        refine op_loadaggbox (d := some 36) (t := 22) (b := bk1) (off := 0) (k := 1) (m := 32) (xs := bys k) En1078 (by kernel_rfl) Hv1079 rfl (load_whole (bys_lenh n_k)) (bys_lenh n_k) (by kernel_rfl) (by kernel_rfl) ?_
        intro ac1080 En1081
        exact any_to hG (by kernel_rfl) (nd958 _ _ (En1081.sub (by kernel_rfl)) (Hv1079.pick [0, 1, 2, 3] (by kernel_rfl) (by decide)))
      · rintro _ rfl
        refine op_loadaggbox (d := some 38) (t := 24) (b := bk6) (off := 0) (k := 2) (m := 12) (xs := bys n) En1078 (by kernel_rfl) Hv1079 rfl (load_whole (bys_lenh n_n)) (bys_lenh n_n) (by kernel_rfl) (by kernel_rfl) ?_
        intro ac1082 En1083
        exact any_to hG (by kernel_rfl) (nd991 _ _ (En1083.sub (by kernel_rfl)) (Hv1079.pick [0, 1, 2, 3] (by kernel_rfl) (by decide)))
    have nd1084 : ∀ (ac : Act) (wo : World), Env ac 64 [(1, .int .u32 ((UInt32.toNat c : Nat) : Int)), (3, .slice a_b (List.length b) c_b), (4, .pointer (some ⟨bk1, 0, none⟩)), (6, .pointer (some ⟨bk6, 0, none⟩)), (8, .bool false), (10, .slice ao29 (List.length b) cp30), (11, .slice aoq47 (List.length (streamF k c n b)) coq47), (35, .bool true), (36, .agg (List.toArray (bys k))), (37, .int .u32 ((UInt32.toNat c : Nat) : Int)), (41, .int .u32 ((UInt32.toNat c : Nat) : Int))] → Ev w [] wo [.vec aoq47 coq47 1 (bys (streamF k c n b)) 5, .box bk1 (bys k) 22, .box bk6 (bys n) 24, .vec ao29 cp30 1 (bys b) 5] → G 26 #[true, true, true, true, true, true, true, false, false, false, true, false, false, false, false, false, false, false, false, false, false, false, false, false, false, false, false, false, false, false, false, false, false, false] ac wo := by
      intro ac1085 wo1086 En1087 Hv1088
      refine any_from hG ?_
      refine any_ways [7, 9, 11] (by kernel_rfl) rfl ?_
      refine ⟨?_, ?_, ?_, trivial⟩
      · rintro _ rfl
        refine op_loadaggbox (d := some 38) (t := 24) (b := bk6) (off := 0) (k := 2) (m := 12) (xs := bys n) En1087 (by kernel_rfl) Hv1088 rfl (load_whole (bys_lenh n_n)) (bys_lenh n_n) (by kernel_rfl) (by kernel_rfl) ?_
        intro ac1089 En1090
        exact any_to hG (by kernel_rfl) (nd1024 _ _ (En1090.sub (by kernel_rfl)) (Hv1088.pick [0, 1, 2, 3] (by kernel_rfl) (by decide)))
      · rintro _ rfl
        refine op_loadaggbox (d := some 40) (t := 22) (b := bk1) (off := 0) (k := 1) (m := 32) (xs := bys k) En1087 (by kernel_rfl) Hv1088 rfl (load_whole (bys_lenh n_k)) (bys_lenh n_k) (by kernel_rfl) (by kernel_rfl) ?_
        intro ac1091 En1092
        exact any_to hG (by kernel_rfl) (nd1039 _ _ (En1092.sub (by kernel_rfl)) (Hv1088.pick [0, 1, 2, 3] (by kernel_rfl) (by decide)))
      · rintro _ rfl
        refine op_loadaggbox (d := some 42) (t := 24) (b := bk6) (off := 0) (k := 2) (m := 12) (xs := bys n) En1087 (by kernel_rfl) Hv1088 rfl (load_whole (bys_lenh n_n)) (bys_lenh n_n) (by kernel_rfl) (by kernel_rfl) ?_
        intro ac1093 En1094
        exact any_to hG (by kernel_rfl) (nd1048 _ _ (En1094.sub (by kernel_rfl)) (Hv1088.pick [0, 1, 2, 3] (by kernel_rfl) (by decide)))
    have nd1095 : ∀ (ac : Act) (wo : World), Env ac 64 [(1, .int .u32 ((UInt32.toNat c : Nat) : Int)), (3, .slice a_b (List.length b) c_b), (4, .pointer (some ⟨bk1, 0, none⟩)), (6, .pointer (some ⟨bk6, 0, none⟩)), (8, .bool false), (10, .slice ao29 (List.length b) cp30), (11, .slice aoq47 (List.length (streamF k c n b)) coq47), (35, .bool true), (37, .int .u32 ((UInt32.toNat c : Nat) : Int)), (38, .agg (List.toArray (bys n))), (41, .int .u32 ((UInt32.toNat c : Nat) : Int))] → Ev w [] wo [.vec aoq47 coq47 1 (bys (streamF k c n b)) 5, .box bk1 (bys k) 22, .box bk6 (bys n) 24, .vec ao29 cp30 1 (bys b) 5] → G 26 #[true, true, true, true, true, false, true, true, false, false, true, false, false, false, false, false, false, false, false, false, false, false, false, false, false, false, false, false, false, false, false, false, false, false] ac wo := by
      intro ac1096 wo1097 En1098 Hv1099
      refine any_from hG ?_
      refine any_ways [5, 9, 11] (by kernel_rfl) rfl ?_
      refine ⟨?_, ?_, ?_, trivial⟩
      · rintro _ rfl
        refine op_loadaggbox (d := some 36) (t := 22) (b := bk1) (off := 0) (k := 1) (m := 32) (xs := bys k) En1098 (by kernel_rfl) Hv1099 rfl (load_whole (bys_lenh n_k)) (bys_lenh n_k) (by kernel_rfl) (by kernel_rfl) ?_
        intro ac1100 En1101
        exact any_to hG (by kernel_rfl) (nd1024 _ _ (En1101.sub (by kernel_rfl)) (Hv1099.pick [0, 1, 2, 3] (by kernel_rfl) (by decide)))
      · rintro _ rfl
        refine op_loadaggbox (d := some 40) (t := 22) (b := bk1) (off := 0) (k := 1) (m := 32) (xs := bys k) En1098 (by kernel_rfl) Hv1099 rfl (load_whole (bys_lenh n_k)) (bys_lenh n_k) (by kernel_rfl) (by kernel_rfl) ?_
        intro ac1102 En1103
        exact any_to hG (by kernel_rfl) (nd1057 _ _ (En1103.sub (by kernel_rfl)) (Hv1099.pick [0, 1, 2, 3] (by kernel_rfl) (by decide)))
      · rintro _ rfl
        refine op_loadaggbox (d := some 42) (t := 24) (b := bk6) (off := 0) (k := 2) (m := 12) (xs := bys n) En1098 (by kernel_rfl) Hv1099 rfl (load_whole (bys_lenh n_n)) (bys_lenh n_n) (by kernel_rfl) (by kernel_rfl) ?_
        intro ac1104 En1105
        exact any_to hG (by kernel_rfl) (nd1066 _ _ (En1105.sub (by kernel_rfl)) (Hv1099.pick [0, 1, 2, 3] (by kernel_rfl) (by decide)))
    have nd1106 : ∀ (ac : Act) (wo : World), Env ac 64 [(1, .int .u32 ((UInt32.toNat c : Nat) : Int)), (3, .slice a_b (List.length b) c_b), (4, .pointer (some ⟨bk1, 0, none⟩)), (6, .pointer (some ⟨bk6, 0, none⟩)), (8, .bool false), (10, .slice ao29 (List.length b) cp30), (11, .slice aoq47 (List.length (streamF k c n b)) coq47), (35, .bool true), (37, .int .u32 ((UInt32.toNat c : Nat) : Int)), (40, .agg (List.toArray (bys k))), (41, .int .u32 ((UInt32.toNat c : Nat) : Int))] → Ev w [] wo [.vec aoq47 coq47 1 (bys (streamF k c n b)) 5, .box bk1 (bys k) 22, .box bk6 (bys n) 24, .vec ao29 cp30 1 (bys b) 5] → G 26 #[true, true, true, true, true, false, true, false, false, true, true, false, false, false, false, false, false, false, false, false, false, false, false, false, false, false, false, false, false, false, false, false, false, false] ac wo := by
      intro ac1107 wo1108 En1109 Hv1110
      refine any_from hG ?_
      refine any_ways [5, 7, 11] (by kernel_rfl) rfl ?_
      refine ⟨?_, ?_, ?_, trivial⟩
      · rintro _ rfl
        refine op_loadaggbox (d := some 36) (t := 22) (b := bk1) (off := 0) (k := 1) (m := 32) (xs := bys k) En1109 (by kernel_rfl) Hv1110 rfl (load_whole (bys_lenh n_k)) (bys_lenh n_k) (by kernel_rfl) (by kernel_rfl) ?_
        intro ac1111 En1112
        exact any_to hG (by kernel_rfl) (nd1039 _ _ (En1112.sub (by kernel_rfl)) (Hv1110.pick [0, 1, 2, 3] (by kernel_rfl) (by decide)))
      · rintro _ rfl
        refine op_loadaggbox (d := some 38) (t := 24) (b := bk6) (off := 0) (k := 2) (m := 12) (xs := bys n) En1109 (by kernel_rfl) Hv1110 rfl (load_whole (bys_lenh n_n)) (bys_lenh n_n) (by kernel_rfl) (by kernel_rfl) ?_
        intro ac1113 En1114
        exact any_to hG (by kernel_rfl) (nd1057 _ _ (En1114.sub (by kernel_rfl)) (Hv1110.pick [0, 1, 2, 3] (by kernel_rfl) (by decide)))
      · rintro _ rfl
        refine op_loadaggbox (d := some 42) (t := 24) (b := bk6) (off := 0) (k := 2) (m := 12) (xs := bys n) En1109 (by kernel_rfl) Hv1110 rfl (load_whole (bys_lenh n_n)) (bys_lenh n_n) (by kernel_rfl) (by kernel_rfl) ?_
        intro ac1115 En1116
        exact any_to hG (by kernel_rfl) (nd1075 _ _ (En1116.sub (by kernel_rfl)) (Hv1110.pick [0, 1, 2, 3] (by kernel_rfl) (by decide)))
    have nd1117 : ∀ (ac : Act) (wo : World), Env ac 64 [(1, .int .u32 ((UInt32.toNat c : Nat) : Int)), (3, .slice a_b (List.length b) c_b), (4, .pointer (some ⟨bk1, 0, none⟩)), (6, .pointer (some ⟨bk6, 0, none⟩)), (8, .bool false), (10, .slice ao29 (List.length b) cp30), (11, .slice aoq47 (List.length (streamF k c n b)) coq47), (35, .bool true), (37, .int .u32 ((UInt32.toNat c : Nat) : Int)), (41, .int .u32 ((UInt32.toNat c : Nat) : Int)), (42, .agg (List.toArray (bys n)))] → Ev w [] wo [.vec aoq47 coq47 1 (bys (streamF k c n b)) 5, .box bk1 (bys k) 22, .box bk6 (bys n) 24, .vec ao29 cp30 1 (bys b) 5] → G 26 #[true, true, true, true, true, false, true, false, false, false, true, true, false, false, false, false, false, false, false, false, false, false, false, false, false, false, false, false, false, false, false, false, false, false] ac wo := by
      intro ac1118 wo1119 En1120 Hv1121
      refine any_from hG ?_
      refine any_ways [5, 7, 9] (by kernel_rfl) rfl ?_
      refine ⟨?_, ?_, ?_, trivial⟩
      · rintro _ rfl
        refine op_loadaggbox (d := some 36) (t := 22) (b := bk1) (off := 0) (k := 1) (m := 32) (xs := bys k) En1120 (by kernel_rfl) Hv1121 rfl (load_whole (bys_lenh n_k)) (bys_lenh n_k) (by kernel_rfl) (by kernel_rfl) ?_
        intro ac1122 En1123
        exact any_to hG (by kernel_rfl) (nd1048 _ _ (En1123.sub (by kernel_rfl)) (Hv1121.pick [0, 1, 2, 3] (by kernel_rfl) (by decide)))
      · rintro _ rfl
        refine op_loadaggbox (d := some 38) (t := 24) (b := bk6) (off := 0) (k := 2) (m := 12) (xs := bys n) En1120 (by kernel_rfl) Hv1121 rfl (load_whole (bys_lenh n_n)) (bys_lenh n_n) (by kernel_rfl) (by kernel_rfl) ?_
        intro ac1124 En1125
        exact any_to hG (by kernel_rfl) (nd1066 _ _ (En1125.sub (by kernel_rfl)) (Hv1121.pick [0, 1, 2, 3] (by kernel_rfl) (by decide)))
      · rintro _ rfl
        refine op_loadaggbox (d := some 40) (t := 22) (b := bk1) (off := 0) (k := 1) (m := 32) (xs := bys k) En1120 (by kernel_rfl) Hv1121 rfl (load_whole (bys_lenh n_k)) (bys_lenh n_k) (by kernel_rfl) (by kernel_rfl) ?_
        intro ac1126 En1127
        exact any_to hG (by kernel_rfl) (nd1075 _ _ (En1127.sub (by kernel_rfl)) (Hv1121.pick [0, 1, 2, 3] (by kernel_rfl) (by decide)))
    refine any_from hG ?_
    refine any_pureR (d := some 31) En293 (v := .bool true) 0 (by kernel_rfl) (by kernel_rfl) rfl ?_
    intro ac1128 En1129
    refine any_pureR (d := some 32) En1129 (v := .bool true) 1 (by kernel_rfl) (by kernel_rfl) rfl ?_
    intro ac1130 En1131
    refine any_pureR (d := some 33) En1131 (v := .bool true) 2 (by kernel_rfl) (by kernel_rfl) rfl ?_
    intro ac1132 En1133
    refine any_pureR (d := some 34) En1133 (v := .bool true) 3 (by kernel_rfl) (by kernel_rfl) rfl ?_
    intro ac1134 En1135
    refine any_pureR (d := some 35) En1135 (v := .bool true) 4 (by kernel_rfl) (by kernel_rfl) rfl ?_
    intro ac1136 En1137
    refine any_pureR (d := some 37) En1137 (v := .int .u32 ((UInt32.toNat c : Nat) : Int)) 6 (by kernel_rfl) (by kernel_rfl) rfl ?_
    intro ac1138 En1139
    refine any_pureR (d := some 41) En1139 (v := .int .u32 ((UInt32.toNat c : Nat) : Int)) 10 (by kernel_rfl) (by kernel_rfl) rfl ?_
    intro ac1140 En1141
    refine any_ways [5, 7, 9, 11] (by kernel_rfl) rfl ?_
    refine ⟨?_, ?_, ?_, ?_, trivial⟩
    · rintro _ rfl
      refine op_loadaggbox (d := some 36) (t := 22) (b := bk1) (off := 0) (k := 1) (m := 32) (xs := bys k) En1141 (by kernel_rfl) wo295 rfl (load_whole (bys_lenh n_k)) (bys_lenh n_k) (by kernel_rfl) (by kernel_rfl) ?_
      intro ac1142 En1143
      exact any_to hG (by kernel_rfl) (nd1084 _ _ (En1143.sub (by kernel_rfl)) (wo295.pick [0, 1, 2, 3] (by kernel_rfl) (by decide)))
    · rintro _ rfl
      refine op_loadaggbox (d := some 38) (t := 24) (b := bk6) (off := 0) (k := 2) (m := 12) (xs := bys n) En1141 (by kernel_rfl) wo295 rfl (load_whole (bys_lenh n_n)) (bys_lenh n_n) (by kernel_rfl) (by kernel_rfl) ?_
      intro ac1144 En1145
      exact any_to hG (by kernel_rfl) (nd1095 _ _ (En1145.sub (by kernel_rfl)) (wo295.pick [0, 1, 2, 3] (by kernel_rfl) (by decide)))
    · rintro _ rfl
      refine op_loadaggbox (d := some 40) (t := 22) (b := bk1) (off := 0) (k := 1) (m := 32) (xs := bys k) En1141 (by kernel_rfl) wo295 rfl (load_whole (bys_lenh n_k)) (bys_lenh n_k) (by kernel_rfl) (by kernel_rfl) ?_
      intro ac1146 En1147
      exact any_to hG (by kernel_rfl) (nd1106 _ _ (En1147.sub (by kernel_rfl)) (wo295.pick [0, 1, 2, 3] (by kernel_rfl) (by decide)))
    · rintro _ rfl
      refine op_loadaggbox (d := some 42) (t := 24) (b := bk6) (off := 0) (k := 2) (m := 12) (xs := bys n) En1141 (by kernel_rfl) wo295 rfl (load_whole (bys_lenh n_n)) (bys_lenh n_n) (by kernel_rfl) (by kernel_rfl) ?_
      intro ac1148 En1149
      exact any_to hG (by kernel_rfl) (nd1117 _ _ (En1149.sub (by kernel_rfl)) (wo295.pick [0, 1, 2, 3] (by kernel_rfl) (by decide)))
  rintro ac1150 wo1151 ⟨En1152, Hv1153⟩
  refine then_normal ?_
  refine wp_ret ?_
  refine d_ret1 (t := 8) (v := .bool true) En1152 (by kernel_rfl) (by kernel_rfl) ?_
  exact ⟨rfl, Hv1153.pick [] (by kernel_rfl) (by decide)⟩

end Go.Proofs.Ytnahplggflhdaaa
