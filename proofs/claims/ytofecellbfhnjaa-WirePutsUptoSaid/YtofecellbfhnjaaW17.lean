/- Layer 17: shares of keys are read by the document; compared. -/
import Derived.Test.YtofecellbfhnjaaW16
namespace Go.Proofs.Ytofecellbfhnjaa
open Go.Dbr
set_option maxRecDepth 100000
set_option maxHeartbeats 2000000
set_option linter.unusedVariables false
set_option linter.unusedSimpArgs false

theorem dsh_len (l : Bs) (s o : Bool) : (dshareM l s o).1.2.length ≤ 4294967296 := Nat.le_of_succ_le (ldO_32 (by decide) _ _)

theorem dshare_go (w : World) (br : Nat) (a : Option Addr) (c : Nat) (l : List UInt8) (s o : Bool) (i : InB w [.box br [.slice a (List.length l) c, .bool s, .bool o] 154] a c l) (hH : Heap w [.box br [.slice a (List.length l) c, .bool s, .bool o] 154]) : Calls Try.prog 161 #[pt br] w fun e w' => ∃ ta tc gv oa oc bl, e = .returned (.agg #[uv16 gv, .slice oa (List.length bl) oc]) ∧ Ev w [.box br [.slice a (List.length l) c, .bool s, .bool o] 154] w' [.box br [.slice ta (List.length ((dshareM l s o).2.1)) tc, .bool ((dshareM l s o).2.2.1), .bool ((dshareM l s o).2.2.2)] 154, .vec oa oc 1 (bys bl) 5] ∧ Sub a c l ta tc (dshareM l s o).2.1 ∧ (gv, bl) = (dshareM l s o).1 ∧ List.length bl ≤ 4294967296 := by
 refine d_0 [(0, pt br)] 12 Go.Proofs.Try.func161 Go.Proofs.Try.ntmps161 (hH) fun act0 En0 Hv0 => ?_
 refine wp_seq ?_
 refine region_from ?_
 refine f_o ?_
 refine m_z 49 [.int .u16 0, .slice none 0 0] En0 Hv0 fun ac2 wo3 bk1 En4 Hv5 => ?_
 refine f_e ?_
 refine then_normal ?_
 refine wp_seq ?_
 refine region_from ?_
 refine d_k [0,2,4] [] 1 En4 fun ac6 En7 => ?_
 refine f_o ?_
 refine c_l [0] (M := [.box br [.slice a (List.length l) c, .bool s, .bool o] 154]) En7 Hv5 (fun hM11 => dnumber_go _ br 2 (by omega) a c l s o ((i.ev Hv5).pick [0] (by kernel_rfl)) hM11) ?_
 rintro _ wo12 ⟨ta8, tc9, rfl, he13, hs10⟩
 refine ⟨_, _, [.box br [.slice ta8 (List.length (dkR 2 l s)) tc9, .bool (tkS 2 l s), .bool o] 154, .box bk1 [.int .u16 0, .slice none 0 0] 49], rfl, he13, by kernel_rfl, fun ac15 En16 Hv17 => ?_⟩
 refine d_k [0,2,7] [(2, g_i .u16 (Go.Dbr.nat_to_u16 (a := ((nbV 2 l s : Nat) : Int)) (n := nbV 2 l s) rfl))] 4 En16 fun ac18 En19 => ?_
 refine f_o ?_
 refine m_z 49 [.int .u16 0, .slice none 0 0] En19 Hv17 fun ac21 wo22 bk20 En23 Hv24 => ?_
 refine f_o ?_
 refine m_g 2 0 2 [.int .u16 ((UInt16.toNat (UInt16.ofNat (nbV 2 l s)) : Nat) : Int), .slice none 0 0] [.int .u16 ((UInt16.toNat (UInt16.ofNat (nbV 2 l s)) : Nat) : Int), .slice none 0 0] [.box br [.slice ta8 (List.length (dkR 2 l s)) tc9, .bool (tkS 2 l s), .bool o] 154, .box bk1 [.int .u16 0, .slice none 0 0] 49, .box bk20 [.int .u16 ((UInt16.toNat (UInt16.ofNat (nbV 2 l s)) : Nat) : Int), .slice none 0 0] 49] En23 Hv24 rfl rfl (by simp) (one_all (by kernel_rfl)) rfl rfl fun ac25 wo26 En27 Hv28 => ?_
 refine f_e ?_
 refine then_normal ?_
 refine wp_seq ?_
 refine region_from ?_
 refine d_k [0,2,3,8] [] 1 En27 fun ac29 En30 => ?_
 refine f_o ?_
 refine c_l [0] (M := [.box br [.slice ta8 (List.length (dkR 2 l s)) tc9, .bool (tkS 2 l s), .bool o] 154]) En30 Hv28 (fun hM36 => dlist_go _ br 2 (by omega) 1 65535 (by omega) (by omega) ta8 tc9 (dkR 2 l s) (tkS 2 l s) o (hs10 _ _ ((i.ev Hv28).pick [0] (by kernel_rfl))) hM36) ?_
 rintro _ wo37 ⟨ao31, cp32, ta33, tc34, rfl, he38, hs35⟩
 refine ⟨_, _, [.box br [.slice ta33 (List.length (ldR 2 1 65535 (dkR 2 l s) (tkS 2 l s))) tc34, .bool (ldS 2 1 65535 (dkR 2 l s) (tkS 2 l s)), .bool o] 154, .vec ao31 cp32 1 (bys (ldO 2 1 65535 (dkR 2 l s) (tkS 2 l s))) 5, .box bk1 [.int .u16 0, .slice none 0 0] 49, .box bk20 [.int .u16 ((UInt16.toNat (UInt16.ofNat (nbV 2 l s)) : Nat) : Int), .slice none 0 0] 49], rfl, he38, by kernel_rfl, fun ac40 En41 Hv42 => ?_⟩
 refine d_k [0,2,3,9,10] [] 3 En41 fun ac43 En44 => ?_
 refine f_o ?_
 refine m_s 3 [.box br [.slice ta33 (List.length (ldR 2 1 65535 (dkR 2 l s) (tkS 2 l s))) tc34, .bool (ldS 2 1 65535 (dkR 2 l s) (tkS 2 l s)), .bool o] 154, .vec ao31 cp32 1 (bys (ldO 2 1 65535 (dkR 2 l s) (tkS 2 l s))) 5, .box bk1 [.int .u16 0, .slice none 0 0] 49, .box bk20 [.int .u16 ((UInt16.toNat (UInt16.ofNat (nbV 2 l s)) : Nat) : Int), .slice ao31 (List.length (ldO 2 1 65535 (dkR 2 l s) (tkS 2 l s))) cp32] 49] En44 Hv42 fun ac45 wo46 En47 Hv48 => ?_
 refine f_e ?_
 refine then_normal ?_
 refine wp_seq ?_
 refine region_from ?_
 refine f_o ?_
 refine m_a 3 0 2 [.int .u16 ((UInt16.toNat (UInt16.ofNat (nbV 2 l s)) : Nat) : Int), .slice ao31 (List.length (ldO 2 1 65535 (dkR 2 l s) (tkS 2 l s))) cp32] En47 Hv48 rfl rfl rfl fun ac49 En50 => ?_
 refine f_o ?_
 refine m_g 2 0 2 [.int .u16 ((UInt16.toNat (UInt16.ofNat (nbV 2 l s)) : Nat) : Int), .slice ao31 (List.length (ldO 2 1 65535 (dkR 2 l s) (tkS 2 l s))) cp32] [.int .u16 ((UInt16.toNat (UInt16.ofNat (nbV 2 l s)) : Nat) : Int), .slice ao31 (List.length (ldO 2 1 65535 (dkR 2 l s) (tkS 2 l s))) cp32] [.box br [.slice ta33 (List.length (ldR 2 1 65535 (dkR 2 l s) (tkS 2 l s))) tc34, .bool (ldS 2 1 65535 (dkR 2 l s) (tkS 2 l s)), .bool o] 154, .vec ao31 cp32 1 (bys (ldO 2 1 65535 (dkR 2 l s) (tkS 2 l s))) 5, .box bk1 [.int .u16 ((UInt16.toNat (UInt16.ofNat (nbV 2 l s)) : Nat) : Int), .slice ao31 (List.length (ldO 2 1 65535 (dkR 2 l s) (tkS 2 l s))) cp32] 49, .box bk20 [.int .u16 ((UInt16.toNat (UInt16.ofNat (nbV 2 l s)) : Nat) : Int), .slice ao31 (List.length (ldO 2 1 65535 (dkR 2 l s) (tkS 2 l s))) cp32] 49] En50 Hv48 rfl rfl (by simp) (one_all (by kernel_rfl)) rfl rfl fun ac51 wo52 En53 Hv54 => ?_
 refine f_e ?_
 refine then_normal ?_
 refine wp_ret ?_
 refine d_cell1 (v := .agg #[.int .u16 ((UInt16.toNat (UInt16.ofNat (nbV 2 l s)) : Nat) : Int), .slice ao31 (List.length (ldO 2 1 65535 (dkR 2 l s) (tkS 2 l s))) cp32]) (t := 2) (T := 49) (ad := ⟨bk1, 0, none⟩) En53 (by kernel_rfl) (by kernel_rfl) (Ev.cellAgg (t := 49) (k := 2) (off := 0) (m := 2) (xs := [.int .u16 ((UInt16.toNat (UInt16.ofNat (nbV 2 l s)) : Nat) : Int), .slice ao31 (List.length (ldO 2 1 65535 (dkR 2 l s) (tkS 2 l s))) cp32]) Hv54 rfl rfl rfl (by kernel_rfl) (by kernel_rfl)) ?_
 exact ⟨ta33, tc34, (UInt16.ofNat (nbV 2 l s)), ao31, cp32, (ldO 2 1 65535 (dkR 2 l s) (tkS 2 l s)), rfl, Hv54.pk [0, 1], (hs10.trans hs35), rfl, (dsh_len l s o)⟩

theorem dgetshares_go (w : World) (aq : Option Addr) (nq cq : Nat) (lq : List UInt8) (eq : nq = List.length lq) (iq : InB w [] aq cq lq) : Calls Try.prog 54 #[.slice aq nq cq] w fun e w' => ∃ oa oc xs, e = .returned (.tuple #[.slice oa (List.length xs) oc, .int .i64 (gotA (dmanyM dshareM 2 0 65535 lq false false))]) ∧ Ev w [] w' [.vec oa oc 2 (List.flatMap fSha xs) 49, .grp (List.flatMap innSha xs)] ∧ List.map (fun y : RSha => (y.1, y.2.1.l)) xs = gotV [] (dmanyM dshareM 2 0 65535 lq false false) ∧ List.length xs ≤ 4294967296 ∧ ∀ y ∈ xs, List.length y.2.1.l ≤ 140737488351232 := by
 subst eq
 refine d_0 [(0, .slice aq (List.length lq) cq)] 30 Go.Proofs.Try.func54 Go.Proofs.Try.ntmps54 (Heap.nil _) fun act0 En0 Hv0 => ?_
 refine wp_seq ?_
 refine d_r [0,2,3] [] En0 fun ac1 En2 => ?_
 refine then_normal ?_
 refine wp_seq ?_
 refine region_from ?_
 refine d_k [2,3,9] [] 2 En2 fun ac3 En4 => ?_
 refine f_o ?_
 refine m_m 154 [.slice aq (List.length lq) cq, .bool false, .bool false] En4 Hv0 fun ac6 wo7 bk5 En8 Hv9 => ?_
 refine d_e [2,3,4] [] En8 fun ac10 En11 => ?_
 refine then_normal ?_
 refine wp_seq ?_
 refine region_from ?_
 refine d_k [2,3,4,11] [] 1 En11 fun ac12 En13 => ?_
 refine f_o ?_
 refine c_l [0] (M := [.box bk5 [.slice aq (List.length lq) cq, .bool false, .bool false] 154]) En13 Hv9 (fun hM20 => dpart_go _ bk5 2 (by omega) 0 65535 (by omega) (by omega) aq cq lq false false ((iq.ev Hv9).pick [0] (by kernel_rfl)) hM20) ?_
 rintro _ wo21 ⟨bp14, ao15, cp16, ta17, tc18, rfl, he22, hs19⟩
 refine ⟨_, _, [.box bk5 [.slice ta17 (List.length (ldR 2 0 65535 lq false)) tc18, .bool (ldS 2 0 65535 lq false), .bool false] 154, .box bp14 [.slice ao15 (List.length (ldO 2 0 65535 lq false)) cp16, .bool (ldS 2 0 65535 lq false), .bool false] 154, .vec ao15 cp16 1 (bys (ldO 2 0 65535 lq false)) 5], rfl, he22, by kernel_rfl, fun ac24 En25 Hv26 => ?_⟩
 refine d_e [2,3,4,5] [] En25 fun ac27 En28 => ?_
 refine then_normal ?_
 refine wp_seq ?_
 refine d_r [2,3,4,5,6] [] En28 fun ac29 En30 => ?_
 refine then_normal ?_
 refine wp_seq ?_
 refine wp_block ?_
 have Hv31 : Ev w [] wo21 [.box bk5 [.slice ta17 (List.length (ldR 2 0 65535 lq false)) tc18, .bool (ldS 2 0 65535 lq false), .bool false] 154, .box bp14 [.slice ao15 (List.length (ldO 2 0 65535 lq false)) cp16, .bool (ldS 2 0 65535 lq false), .bool false] 154, .vec ao15 cp16 1 (bys (ldO 2 0 65535 lq false)) 5, .vec none 0 2 (List.flatMap fSha []) 49] := Ev.nil (sz := 2) (T := 49) Hv26
 have Hv32 : Ev w [] wo21 [.box bk5 [.slice ta17 (List.length (ldR 2 0 65535 lq false)) tc18, .bool (ldS 2 0 65535 lq false), .bool false] 154, .box bp14 [.slice ao15 (List.length (ldO 2 0 65535 lq false)) cp16, .bool (ldS 2 0 65535 lq false), .bool false] 154, .vec ao15 cp16 1 (bys (ldO 2 0 65535 lq false)) 5, .vec none 0 2 (List.flatMap fSha []) 49, .grp (List.flatMap innSha [])] := Ev.grp0 Hv31
 have hO32 := Nat.le_of_succ_le (ldO_32 (n := 2) (x := 0) (y := 65535) (by decide) lq false)
 refine loop_m (fun ms33 ac wo => ∃ (oa : Option Addr) (oc : Nat) (xs : List (RSha)) (ra : Option Addr) (rc : Nat) (rl : Bs) (s1 : Bool) (o1 : Bool), ms33 = (bif s1 then 0 else List.length rl + 1 : Nat) ∧ Env ac 30 [(2, .slice none 0 0), (3, .int .i64 0), (4, pt bk5), (5, pt bp14), (6, .slice oa (List.length xs) oc)] ∧ Ev w [] wo [.box bp14 [.slice ra (List.length rl) rc, .bool s1, .bool o1] 154, .vec ao15 cp16 1 (bys (ldO 2 0 65535 lq false)) 5, .box bk5 [.slice ta17 (List.length (ldR 2 0 65535 lq false)) tc18, .bool (ldS 2 0 65535 lq false), .bool false] 154, .vec oa oc 2 (List.flatMap fSha xs) 49, .grp (List.flatMap innSha xs)] ∧ (Sub ao15 cp16 (ldO 2 0 65535 lq false) ra rc rl) ∧ (mn dshareM ((ldO 2 0 65535 lq false, ldS 2 0 65535 lq false, false) : PS) = (List.map (fun y : RSha => (y.1, y.2.1.l)) xs ++ (mn dshareM (rl, s1, o1)).1, (mn dshareM (rl, s1, o1)).2)) ∧ (List.length xs + List.length rl ≤ List.length (ldO 2 0 65535 lq false) + (bif s1 then 1 else 0)) ∧ (∀ y ∈ xs, List.length y.2.1.l ≤ 140737488351232)) ⟨_, none, 0, [], ao15, cp16, (ldO 2 0 65535 lq false), (ldS 2 0 65535 lq false), false, rfl, En30.sb, Hv32.pk [1, 2, 0, 3, 4], Sub.self, rfl, (by rw [List.length_nil, Nat.zero_add]; exact Nat.le_add_right _ _), (fun y hy => by cases hy)⟩ ?_
 rintro mm39 ac35 wo36 ⟨oa, oc, xs, ra, rc, rl, s1, o1, rfl, En37, Hv38, hsu, hmn, hct, hsm⟩
 refine wp_seq ?_
 refine wp_seq ?_
 refine region_from ?_
 refine d_k [2,3,4,5,6,13] [] 1 En37 fun ac40 En41 => ?_
 refine f_o ?_
 refine c_l [0] (M := [.box bp14 [.slice ra (List.length rl) rc, .bool s1, .bool o1] 154]) En41 Hv38 (fun hM42 => dmore_go _ bp14 ra (List.length rl) rc s1 o1 hM42) ?_
 rintro _ wo43 ⟨rfl, he44⟩
 refine ⟨_, _, [.box bp14 [.slice ra (List.length rl) rc, .bool s1, .bool o1] 154, .vec ao15 cp16 1 (bys (ldO 2 0 65535 lq false)) 5, .box bk5 [.slice ta17 (List.length (ldR 2 0 65535 lq false)) tc18, .bool (ldS 2 0 65535 lq false), .bool false] 154, .vec oa oc 2 (List.flatMap fSha xs) 49, .grp (List.flatMap innSha xs)], rfl, he44, by kernel_rfl, fun ac46 En47 Hv48 => ?_⟩
 refine f_e ?_
 refine then_normal ?_
 refine cond_at En47 (t := !s1 && decide (0 < List.length rl)) (by kernel_rfl) (fun hc49 => ?_) (fun hc49 => ?_)
 ·
  replace hc49 : s1 = false ∧ 0 < List.length rl := by simpa using hc49
  refine wp_skip ?_
  refine then_normal ?_
  refine wp_block ?_
  refine region_from ?_
  refine d_k [2,3,4,5,6,15,16] [] 2 En47 fun ac50 En51 => ?_
  refine f_o ?_
  refine c_l [0] (M := [.box bp14 [.slice ra (List.length rl) rc, .bool s1, .bool o1] 154]) En51 Hv48 (fun hM61 => dshare_go _ bp14 ra rc rl s1 o1 (hsu _ _ (bys_in Hv48.heap (k := 1) rfl [0] (by kernel_rfl) rfl (by first | omega | (simp; done) | (simp; omega)))) hM61) ?_
  rintro _ wo62 ⟨ta52, tc53, gv56, oa57, oc58, bl59, rfl, he63, hs54, hpu55, hf60⟩
  refine ⟨_, _, [.box bp14 [.slice ta52 (List.length ((dshareM rl s1 o1).2.1)) tc53, .bool ((dshareM rl s1 o1).2.2.1), .bool ((dshareM rl s1 o1).2.2.2)] 154, .vec oa57 oc58 1 (bys bl59) 5, .vec ao15 cp16 1 (bys (ldO 2 0 65535 lq false)) 5, .box bk5 [.slice ta17 (List.length (ldR 2 0 65535 lq false)) tc18, .bool (ldS 2 0 65535 lq false), .bool false] 154, .vec oa oc 2 (List.flatMap fSha xs) 49, .grp (List.flatMap innSha xs)], rfl, he63, by kernel_rfl, fun ac65 En66 Hv67 => ?_⟩
  refine f_o ?_
  refine op_lit (d := some 18) (t := 34) (T := 49) (m := 1) (parts := #[(0, .agg #[uv16 gv56, .slice oa57 (List.length bl59) oc58])]) (xs := List.flatMap fSha ([(gv56, ⟨oa57, oc58, bl59⟩, ())] : List (RSha))) (sz := 2) En66 (by kernel_rfl) (by kernel_rfl) rfl (by decide) Hv67 ?_
  intro ac69 wo70 bk68 En71 Hv72
  refine f_o ?_
  refine op_append (d := some 19) (t := 34) (tx := 34) (ty := 34) (k := 4) (p := List.length xs) (m := 1) (x := .slice (some ⟨bk68, 0, none⟩) 1 1) (bytes := 32) En71 (by kernel_rfl) Hv72 rfl (sv_len (f := fSha) (sz := 2) (fun _ => rfl) _) (Reads.src (size := 2) (tx := 34) (e' := 49) (by kernel_rfl) (Hv72.heap.reads (k := 6) rfl) rfl (fun e => by cases e) (flat_one (f := fSha) (fun _ => one_all rfl) _)) (by kernel_rfl) (z := .agg #[.int .u16 0, .slice none 0 0]) (by kernel_rfl) rfl (by decide) (by have hb1 := mn_b1 s1; omega) (by unfold maxLen; have hb1 := mn_b1 s1; omega) ?_
  intro ac77 wo78 ao73 cp74 En79 Hv80 hnz _
  clear hnz
  rw [← List.flatMap_append] at Hv80
  have ehz75 : (List.length xs) + 1 = List.length (xs ++ ([(gv56, ⟨oa57, oc58, bl59⟩, ())] : List (RSha))) := (by first | (simp; done) | (simp; omega) | omega)
  rw [ehz75] at En79
  refine d_e [2,3,4,5,6] [] En79 fun ac81 En82 => ?_
  have Hv83 : Ev w [] wo78 [.box bp14 [.slice ta52 (List.length ((dshareM rl s1 o1).2.1)) tc53, .bool ((dshareM rl s1 o1).2.2.1), .bool ((dshareM rl s1 o1).2.2.2)] 154, .vec ao15 cp16 1 (bys (ldO 2 0 65535 lq false)) 5, .box bk5 [.slice ta17 (List.length (ldR 2 0 65535 lq false)) tc18, .bool (ldS 2 0 65535 lq false), .bool false] 154, .vec ao73 cp74 2 (List.flatMap fSha (xs ++ ([(gv56, ⟨oa57, oc58, bl59⟩, ())] : List (RSha)))) 49, .vec (some ⟨bk68, 0, none⟩) 1 2 (List.flatMap fSha ([(gv56, ⟨oa57, oc58, bl59⟩, ())] : List (RSha))) 49, .grp (List.flatMap innSha (xs ++ ([(gv56, ⟨oa57, oc58, bl59⟩, ())] : List (RSha))))] := Ev.group (M := [.box bp14 [.slice ta52 (List.length ((dshareM rl s1 o1).2.1)) tc53, .bool ((dshareM rl s1 o1).2.2.1), .bool ((dshareM rl s1 o1).2.2.2)] 154, .vec ao15 cp16 1 (bys (ldO 2 0 65535 lq false)) 5, .box bk5 [.slice ta17 (List.length (ldR 2 0 65535 lq false)) tc18, .bool (ldS 2 0 65535 lq false), .bool false] 154, .vec ao73 cp74 2 (List.flatMap fSha (xs ++ ([(gv56, ⟨oa57, oc58, bl59⟩, ())] : List (RSha)))) 49, .vec (some ⟨bk68, 0, none⟩) 1 2 (List.flatMap fSha ([(gv56, ⟨oa57, oc58, bl59⟩, ())] : List (RSha))) 49]) Hv80 [0,2,3,4,6] [5,1] (by kernel_rfl) (by rw [List.flatMap_append]; rfl) (by decide)
  refine block_normal ?_
  refine then_normal ?_
  refine ⟨_, ⟨ao73, cp74, (xs ++ ([(gv56, ⟨oa57, oc58, bl59⟩, ())] : List (RSha))), ta52, tc53, ((dshareM rl s1 o1).2.1), ((dshareM rl s1 o1).2.2.1), ((dshareM rl s1 o1).2.2.2), rfl, En82.sb, Hv83.pk [0, 1, 2, 3, 5], (hsu.trans hs54), (by rw [hmn, mn_step dshare_dec hc49.1 hc49.2, ← hpu55, List.map_append, List.append_assoc]; rfl), (mn_ct hc49.1 hct (dec_lt (o := o1) dshare_dec hc49.1 hc49.2) (dec_le (o := o1) dshare_dec hc49.1) hc49.2), (all_snoc hsm (Nat.le_trans hf60 (by decide)))⟩, ?_⟩
  exact mn_mu hc49.1 hc49.2 (dec_lt (o := o1) dshare_dec hc49.1 hc49.2)
 ·
  replace hc49 : ¬ (s1 = false ∧ 0 < List.length rl) := by simpa using hc49
  refine wp_exit ?_
  refine then_exit ?_
  refine then_exit ?_
  refine block_exit ?_
  refine then_normal ?_
  refine wp_seq ?_
  have hm2 : mn dshareM ((ldO 2 0 65535 lq false, ldS 2 0 65535 lq false, false) : PS) = (List.map (fun y : RSha => (y.1, y.2.1.l)) xs, rl, s1, o1) := by rw [hmn, mn_end (p := (rl, s1, o1)) (more_no hc49), List.append_nil]
  have hc2 := mn_c1 hct
  refine region_from ?_
  refine d_k [2,3,4,5,6,20,21] [] 2 En47 fun ac84 En85 => ?_
  refine f_o ?_
  refine c_l [2,0] (M := [.box bk5 [.slice ta17 (List.length (ldR 2 0 65535 lq false)) tc18, .bool (ldS 2 0 65535 lq false), .bool false] 154, .box bp14 [.slice ra (List.length rl) rc, .bool s1, .bool o1] 154]) En85 Hv48 (fun hM86 => dwith_go _ bk5 bp14 ta17 (List.length (ldR 2 0 65535 lq false)) tc18 (ldS 2 0 65535 lq false) false ra (List.length rl) rc s1 o1 hM86) ?_
  rintro _ wo87 ⟨rfl, he88⟩
  refine ⟨_, _, [.box bk5 [.slice ta17 (List.length (ldR 2 0 65535 lq false)) tc18, .bool ((ldS 2 0 65535 lq false) || s1), .bool (false || o1)] 154, .box bp14 [.slice ra (List.length rl) rc, .bool s1, .bool o1] 154, .vec ao15 cp16 1 (bys (ldO 2 0 65535 lq false)) 5, .vec oa oc 2 (List.flatMap fSha xs) 49, .grp (List.flatMap innSha xs)], rfl, he88, by kernel_rfl, fun ac90 En91 Hv92 => ?_⟩
  refine f_e ?_
  refine then_normal ?_
  refine wp_seq ?_
  refine region_from ?_
  refine d_k [2,3,4,5,6,23] [] 1 En91 fun ac93 En94 => ?_
  refine f_o ?_
  refine c_l [0] (M := [.box bk5 [.slice ta17 (List.length (ldR 2 0 65535 lq false)) tc18, .bool ((ldS 2 0 65535 lq false) || s1), .bool (false || o1)] 154]) En94 Hv92 (fun hM95 => dend_go _ bk5 ta17 (List.length (ldR 2 0 65535 lq false)) tc18 ((ldS 2 0 65535 lq false) || s1) (false || o1) hM95) ?_
  rintro _ wo96 ⟨rfl, he97⟩
  refine ⟨_, _, [.box bk5 [.slice ta17 (List.length (ldR 2 0 65535 lq false)) tc18, .bool ((ldS 2 0 65535 lq false) || s1), .bool (false || o1)] 154, .box bp14 [.slice ra (List.length rl) rc, .bool s1, .bool o1] 154, .vec ao15 cp16 1 (bys (ldO 2 0 65535 lq false)) 5, .vec oa oc 2 (List.flatMap fSha xs) 49, .grp (List.flatMap innSha xs)], rfl, he97, by kernel_rfl, fun ac99 En100 Hv101 => ?_⟩
  refine d_e [2,3,4,5,6,7] [] En100 fun ac102 En103 => ?_
  refine then_normal ?_
  refine wp_seq ?_
  refine wp_seq ?_
  refine d_r [2,3,4,5,6,7,26] [] En103 fun ac104 En105 => ?_
  refine then_normal ?_
  refine c_n (endV ((ldS 2 0 65535 lq false) || s1) (List.length (ldR 2 0 65535 lq false)) (false || o1)) (0 : Int) En105 (fun hc106 => ?_) (fun hc106 => ?_)
  ·
   refine wp_seq ?_
   refine d_r [2,3,4,5,6,7] [] En105 fun ac107 En108 => ?_
   refine then_normal ?_
   refine wp_ret ?_
   refine then_ret ?_
   refine d_ret2 (t := 2) (u := 3) (v := .slice none 0 0) (x := .int .i64 (endV ((ldS 2 0 65535 lq false) || s1) (List.length (ldR 2 0 65535 lq false)) (false || o1))) En108 (by kernel_rfl) (by kernel_rfl) (by kernel_rfl) ?_
   have eA : gotA (dmanyM dshareM 2 0 65535 lq false false) = endV ((ldS 2 0 65535 lq false) || s1) (List.length (ldR 2 0 65535 lq false)) (false || o1) := by unfold gotA dmanyM; rw [hm2] <;> rfl
   rw [gotV_n eA (by assumption), eA]
   have Hv109 : Ev w [] wo96 [.box bk5 [.slice ta17 (List.length (ldR 2 0 65535 lq false)) tc18, .bool ((ldS 2 0 65535 lq false) || s1), .bool (false || o1)] 154, .box bp14 [.slice ra (List.length rl) rc, .bool s1, .bool o1] 154, .vec ao15 cp16 1 (bys (ldO 2 0 65535 lq false)) 5, .vec oa oc 2 (List.flatMap fSha xs) 49, .grp (List.flatMap innSha xs), .vec none 0 2 (List.flatMap fSha []) 49] := Ev.nil (sz := 2) (T := 49) Hv101
   have Hv110 : Ev w [] wo96 [.box bk5 [.slice ta17 (List.length (ldR 2 0 65535 lq false)) tc18, .bool ((ldS 2 0 65535 lq false) || s1), .bool (false || o1)] 154, .box bp14 [.slice ra (List.length rl) rc, .bool s1, .bool o1] 154, .vec ao15 cp16 1 (bys (ldO 2 0 65535 lq false)) 5, .vec oa oc 2 (List.flatMap fSha xs) 49, .grp (List.flatMap innSha xs), .vec none 0 2 (List.flatMap fSha []) 49, .grp (List.flatMap innSha [])] := Ev.grp0 Hv109
   exact ⟨none, 0, [], rfl, Hv110.pk [5, 6], rfl, (Nat.zero_le _), (fun y hy => by cases hy)⟩
  ·
   refine wp_skip ?_
   refine then_normal ?_
   refine wp_seq ?_
   refine d_r [2,3,4,5,6,7] [] En105 fun ac111 En112 => ?_
   refine then_normal ?_
   refine wp_ret ?_
   refine d_ret2 (t := 2) (u := 3) (v := .slice oa (List.length xs) oc) (x := .int .i64 (endV ((ldS 2 0 65535 lq false) || s1) (List.length (ldR 2 0 65535 lq false)) (false || o1))) En112 (by kernel_rfl) (by kernel_rfl) (by kernel_rfl) ?_
   have eA : gotA (dmanyM dshareM 2 0 65535 lq false false) = endV ((ldS 2 0 65535 lq false) || s1) (List.length (ldR 2 0 65535 lq false)) (false || o1) := by unfold gotA dmanyM; rw [hm2] <;> rfl
   rw [gotV_0 (eA.trans (by assumption)), eA]
   exact ⟨oa, oc, xs, rfl, Hv101.pk [3, 4], (by show _ = (mn dshareM ((ldO 2 0 65535 lq false, ldS 2 0 65535 lq false, false) : PS)).1; rw [hm2]), (Nat.le_trans hc2 (ldO_32 (by decide) _ _)), hsm⟩

theorem dgetshare_go (w : World) (aq : Option Addr) (nq cq : Nat) (lq : List UInt8) (eq : nq = List.length lq) (iq : InB w [] aq cq lq) : Calls Try.prog 57 #[.slice aq nq cq] w fun e w' => ∃ gv oa oc bl, e = .returned (.tuple #[.agg #[uv16 gv, .slice oa (List.length bl) oc], .int .i64 (gotA (dshareM lq false false))]) ∧ Ev w [] w' [.vec oa oc 1 (bys bl) 5] ∧ (gv, bl) = gotV (0, []) (dshareM lq false false) ∧ List.length bl ≤ 4294967296 := by
 subst eq
 refine d_0 [(0, .slice aq (List.length lq) cq)] 20 Go.Proofs.Try.func57 Go.Proofs.Try.ntmps57 (Heap.nil _) fun act0 En0 Hv0 => ?_
 refine wp_seq ?_
 refine region_from ?_
 refine f_o ?_
 refine m_z 49 [.int .u16 0, .slice none 0 0] En0 Hv0 fun ac2 wo3 bk1 En4 Hv5 => ?_
 refine d_e [0,2,3] [] En4 fun ac6 En7 => ?_
 refine then_normal ?_
 refine wp_seq ?_
 refine region_from ?_
 refine d_k [2,3,8] [] 2 En7 fun ac8 En9 => ?_
 refine f_o ?_
 refine m_m 154 [.slice aq (List.length lq) cq, .bool false, .bool false] En9 Hv5 fun ac11 wo12 bk10 En13 Hv14 => ?_
 refine d_e [2,3,4] [] En13 fun ac15 En16 => ?_
 refine then_normal ?_
 refine wp_seq ?_
 refine region_from ?_
 refine d_k [2,3,4,10] [] 1 En16 fun ac17 En18 => ?_
 refine f_o ?_
 refine c_l [1] (M := [.box bk10 [.slice aq (List.length lq) cq, .bool false, .bool false] 154]) En18 Hv14 (fun hM28 => dshare_go _ bk10 aq cq lq false false ((iq.ev Hv14).pick [1] (by kernel_rfl)) hM28) ?_
 rintro _ wo29 ⟨ta19, tc20, gv23, oa24, oc25, bl26, rfl, he30, hs21, hpu22, hf27⟩
 refine ⟨_, _, [.box bk10 [.slice ta19 (List.length ((dshareM lq false false).2.1)) tc20, .bool ((dshareM lq false false).2.2.1), .bool ((dshareM lq false false).2.2.2)] 154, .vec oa24 oc25 1 (bys bl26) 5, .box bk1 [.int .u16 0, .slice none 0 0] 49], rfl, he30, by kernel_rfl, fun ac32 En33 Hv34 => ?_⟩
 refine f_o ?_
 refine m_z 49 [.int .u16 0, .slice none 0 0] En33 Hv34 fun ac36 wo37 bk35 En38 Hv39 => ?_
 refine f_o ?_
 refine m_g 3 0 2 [uv16 gv23, .slice oa24 (List.length bl26) oc25] [uv16 gv23, .slice oa24 (List.length bl26) oc25] [.box bk10 [.slice ta19 (List.length ((dshareM lq false false).2.1)) tc20, .bool ((dshareM lq false false).2.2.1), .bool ((dshareM lq false false).2.2.2)] 154, .vec oa24 oc25 1 (bys bl26) 5, .box bk1 [.int .u16 0, .slice none 0 0] 49, .box bk35 [uv16 gv23, .slice oa24 (List.length bl26) oc25] 49] En38 Hv39 rfl rfl (by simp) (one_all (by kernel_rfl)) rfl rfl fun ac40 wo41 En42 Hv43 => ?_
 refine f_e ?_
 refine then_normal ?_
 refine wp_seq ?_
 refine region_from ?_
 refine d_k [2,3,4,5,12] [] 1 En42 fun ac44 En45 => ?_
 refine f_o ?_
 refine c_l [0] (M := [.box bk10 [.slice ta19 (List.length ((dshareM lq false false).2.1)) tc20, .bool ((dshareM lq false false).2.2.1), .bool ((dshareM lq false false).2.2.2)] 154]) En45 Hv43 (fun hM46 => dend_go _ bk10 ta19 (List.length ((dshareM lq false false).2.1)) tc20 ((dshareM lq false false).2.2.1) ((dshareM lq false false).2.2.2) hM46) ?_
 rintro _ wo47 ⟨rfl, he48⟩
 refine ⟨_, _, [.box bk10 [.slice ta19 (List.length ((dshareM lq false false).2.1)) tc20, .bool ((dshareM lq false false).2.2.1), .bool ((dshareM lq false false).2.2.2)] 154, .vec oa24 oc25 1 (bys bl26) 5, .box bk1 [.int .u16 0, .slice none 0 0] 49, .box bk35 [uv16 gv23, .slice oa24 (List.length bl26) oc25] 49], rfl, he48, by kernel_rfl, fun ac50 En51 Hv52 => ?_⟩
 refine d_e [2,3,4,5,6] [] En51 fun ac53 En54 => ?_
 refine then_normal ?_
 refine wp_seq ?_
 refine d_s [2,3,4,5,6,15] [] En54 fun ac55 En56 => ?_
 refine c_n (endV ((dshareM lq false false).2.2.1) (List.length ((dshareM lq false false).2.1)) ((dshareM lq false false).2.2.2)) (0 : Int) En56 (fun hc57 => ?_) (fun hc57 => ?_)
 ·
  refine wp_seq ?_
  refine region_from ?_
  refine d_k [2,3,4,5,6,16,17] [] 2 En56 fun ac58 En59 => ?_
  refine f_o ?_
  refine m_g 2 0 2 [.int .u16 0, .slice none 0 0] [.int .u16 0, .slice none 0 0] [.box bk10 [.slice ta19 (List.length ((dshareM lq false false).2.1)) tc20, .bool ((dshareM lq false false).2.2.1), .bool ((dshareM lq false false).2.2.2)] 154, .vec oa24 oc25 1 (bys bl26) 5, .box bk1 [.int .u16 0, .slice none 0 0] 49, .box bk35 [uv16 gv23, .slice oa24 (List.length bl26) oc25] 49] En59 Hv52 rfl rfl (by simp) (one_all (by kernel_rfl)) rfl rfl fun ac60 wo61 En62 Hv63 => ?_
  refine d_e [2,3,4,5,6] [] En62 fun ac64 En65 => ?_
  refine then_normal ?_
  refine wp_ret ?_
  refine then_ret ?_
  refine d_cell_tmp (v := .agg #[.int .u16 0, .slice none 0 0]) (x := .int .i64 (endV ((dshareM lq false false).2.2.1) (List.length ((dshareM lq false false).2.1)) ((dshareM lq false false).2.2.2))) (t := 2) (T := 49) (ad := ⟨bk1, 0, none⟩) (u := 3) En65 (by kernel_rfl) (by kernel_rfl) (Ev.cellAgg (t := 49) (k := 2) (off := 0) (m := 2) (xs := [.int .u16 0, .slice none 0 0]) Hv63 rfl rfl rfl (by kernel_rfl) (by kernel_rfl)) (by kernel_rfl) ?_
  have eA : gotA (dshareM lq false false) = endV ((dshareM lq false false).2.2.1) (List.length ((dshareM lq false false).2.1)) ((dshareM lq false false).2.2.2) := rfl
  rw [gotV_n eA (by assumption), eA]
  have Hv66 : Ev w [] wo61 [.box bk10 [.slice ta19 (List.length ((dshareM lq false false).2.1)) tc20, .bool ((dshareM lq false false).2.2.1), .bool ((dshareM lq false false).2.2.2)] 154, .vec oa24 oc25 1 (bys bl26) 5, .box bk1 [.int .u16 0, .slice none 0 0] 49, .box bk35 [uv16 gv23, .slice oa24 (List.length bl26) oc25] 49, .vec none 0 1 (bys []) 5] := Ev.nil (sz := 1) (T := 5) Hv63
  exact ⟨0, none, 0, [], rfl, Hv66.pk [4], rfl, (Nat.zero_le _)⟩
 ·
  refine wp_skip ?_
  refine then_normal ?_
  refine wp_seq ?_
  refine region_from ?_
  refine f_o ?_
  refine m_a 3 0 2 [uv16 gv23, .slice oa24 (List.length bl26) oc25] En56 Hv52 rfl rfl rfl fun ac67 En68 => ?_
  refine d_k [2,3,4,5,6,18,19] [] 2 En68 fun ac69 En70 => ?_
  refine f_o ?_
  refine m_g 2 0 2 [uv16 gv23, .slice oa24 (List.length bl26) oc25] [uv16 gv23, .slice oa24 (List.length bl26) oc25] [.box bk10 [.slice ta19 (List.length ((dshareM lq false false).2.1)) tc20, .bool ((dshareM lq false false).2.2.1), .bool ((dshareM lq false false).2.2.2)] 154, .vec oa24 oc25 1 (bys bl26) 5, .box bk1 [uv16 gv23, .slice oa24 (List.length bl26) oc25] 49, .box bk35 [uv16 gv23, .slice oa24 (List.length bl26) oc25] 49] En70 Hv52 rfl rfl (by simp) (one_all (by kernel_rfl)) rfl rfl fun ac71 wo72 En73 Hv74 => ?_
  refine d_e [2,3,4,5,6] [] En73 fun ac75 En76 => ?_
  refine then_normal ?_
  refine wp_ret ?_
  refine d_cell_tmp (v := .agg #[uv16 gv23, .slice oa24 (List.length bl26) oc25]) (x := .int .i64 (endV ((dshareM lq false false).2.2.1) (List.length ((dshareM lq false false).2.1)) ((dshareM lq false false).2.2.2))) (t := 2) (T := 49) (ad := ⟨bk1, 0, none⟩) (u := 3) En76 (by kernel_rfl) (by kernel_rfl) (Ev.cellAgg (t := 49) (k := 2) (off := 0) (m := 2) (xs := [uv16 gv23, .slice oa24 (List.length bl26) oc25]) Hv74 rfl rfl rfl (by kernel_rfl) (by kernel_rfl)) (by kernel_rfl) ?_
  have eA : gotA (dshareM lq false false) = endV ((dshareM lq false false).2.2.1) (List.length ((dshareM lq false false).2.1)) ((dshareM lq false false).2.2.2) := rfl
  rw [gotV_0 (eA.trans (by first | assumption | exact Classical.not_not.1 (by assumption))), eA]
  exact ⟨gv23, oa24, oc25, bl26, rfl, Hv74.pk [1], hpu22, hf27⟩

theorem pair_eq {α β : Type} {a c : α} {b d : β} (h : a = c) (h2 : b = d) : (a, b) = (c, d) := by rw [h, h2]

theorem samesha_go (w : World) (ap : Option Addr) (cp : Nat) (xp : List RSha) (ip : InS fSha 32 (fun x : RSha => (True ∧ (InB w [] x.2.1.a x.2.1.c x.2.1.l ∧ (True)))) w [] ap cp xp) (aq : Option Addr) (cq : Nat) (xq : List RSha) (iq : InS fSha 32 (fun x : RSha => (True ∧ (InB w [] x.2.1.a x.2.1.c x.2.1.l ∧ (True)))) w [] aq cq xq) : Calls Try.prog 55 #[.slice ap (List.length xp) cp, .slice aq (List.length xq) cq] w fun e w' => e = .returned (.bool (List.map (fun y : RSha => (y.1, y.2.1.l)) xp == List.map (fun y : RSha => (y.1, y.2.1.l)) xq)) ∧ Ev w [] w' [] := by
 have hsp := ip.small
 refine d_0 [(0, .slice ap (List.length xp) cp), (1, .slice aq (List.length xq) cq)] 43 Go.Proofs.Try.func55 Go.Proofs.Try.ntmps55 (Heap.nil _) fun act0 En0 Hv0 => ?_
 refine d_s [0,1,4] [] En0 fun ac1 En2 => ?_
 refine wp_seq ?_
 refine d_s [0,1,4,10] [] En2 fun ac3 En4 => ?_
 refine c_n ((List.length xp : Nat) : Int) ((List.length xq : Nat) : Int) En4 (fun hc5 => ?_) (fun hc5 => ?_)
 ·
  refine d_s [0,1,4] [] En4 fun ac6 En7 => ?_
  refine wp_ret ?_
  refine then_ret ?_
  refine d_ret1 (t := 4) (v := .bool false) En7 (by kernel_rfl) (by kernel_rfl) ?_
  exact ⟨congrArg (fun b => Ending.returned (Value.bool b)) (same_len (by omega)), Hv0.pk []⟩
 ·
  refine wp_skip ?_
  refine then_normal ?_
  refine wp_seq ?_
  refine d_s [0,1,4,5] [] En4 fun ac8 En9 => ?_
  refine wp_block ?_
  refine loop_m (fun ms10 ac wo => ∃ (i : Nat), ms10 = (List.length xp + 1 - i : Nat) ∧ Env ac 43 [(0, .slice ap (List.length xp) cp), (1, .slice aq (List.length xq) cq), (5, ni i)] ∧ Ev w [] wo [] ∧ (List.take i (List.map (fun y : RSha => (y.1, y.2.1.l)) xp) = List.take i (List.map (fun y : RSha => (y.1, y.2.1.l)) xq))) ⟨_, 0, rfl, En9.sb, Hv0.pk [], rfl⟩ ?_
  rintro mm16 ac12 wo13 ⟨i, rfl, En14, Hv15, hp⟩
  refine wp_seq ?_
  refine d_s [0,1,5,14] [] En14 fun ac17 En18 => ?_
  refine c_d (((i : Nat) : Int) < ((List.length xp : Nat) : Int)) En18 (fun hc19 => ?_) (fun hc19 => ?_)
  ·
   refine wp_skip ?_
   refine then_normal ?_
   refine wp_seq ?_
   refine wp_block ?_
   refine wp_seq ?_
   have hb20 : i < List.length xp := by omega
   obtain ⟨⟨x22a, ⟨a_x22b, c_x22b, x22b⟩, _⟩, hx21⟩ : ∃ x, (xp)[i]? = some x := ⟨_, List.getElem?_eq_getElem hb20⟩
   obtain ⟨_, i_x22b, _⟩ := ip.each _ (List.mem_of_getElem? hx21)
   replace i_x22b : InB w [] a_x22b c_x22b x22b := i_x22b
   obtain ⟨adp, hadp⟩ := some_of ip.nz (show i < List.length xp by omega)
   have hb23 : i < List.length xq := by omega
   obtain ⟨⟨x25a, ⟨a_x25b, c_x25b, x25b⟩, _⟩, hx24⟩ : ∃ x, (xq)[i]? = some x := ⟨_, List.getElem?_eq_getElem hb23⟩
   obtain ⟨_, i_x25b, _⟩ := iq.each _ (List.mem_of_getElem? hx24)
   replace i_x25b : InB w [] a_x25b c_x25b x25b := i_x25b
   obtain ⟨adq, hadq⟩ := some_of iq.nz (show i < List.length xq by omega)
   rcases Bool.eq_false_or_eq_true (((UInt16.toNat x22a : Nat) : Int) != ((UInt16.toNat x25a : Nat) : Int)) with hb26 | hb26
   ·
    have hb26p : ¬ (((UInt16.toNat x22a : Nat) : Int) = ((UInt16.toNat x25a : Nat) : Int)) := by simpa using hb26
    refine r_c (fun ac wo => Env ac 43 [(0, .slice ap (List.length xp) cp), (1, .slice aq (List.length xq) cq), (5, ni i), (42, .bool true)] ∧ Ev w [] wo []) ?_ ?_
    ·
     refine s_g0 [(0, .slice ap (List.length xp) cp), (1, .slice aq (List.length xq) cq), (5, ni i)] [0,1,2,3,4,5,6,7,8,9,10,11] [(17, .slice ap (List.length xp) cp), (18, ni i), (19, .pointer (some (Addr.add adp (i * 2)))), (20, .pointer (some (Addr.add adp (i * 2)))), (21, uv16 x22a), (22, .slice aq (List.length xq) cq), (23, ni i), (24, .pointer (some (Addr.add adq (i * 2)))), (25, .pointer (some (Addr.add adq (i * 2)))), (26, uv16 x25a), (27, .bool (((UInt16.toNat x22a : Nat) : Int) != ((UInt16.toNat x25a : Nat) : Int))), (28, .bool (((UInt16.toNat x22a : Nat) : Int) != ((UInt16.toNat x25a : Nat) : Int)))] 14 [(0, .slice ap (List.length xp) cp), (1, .slice aq (List.length xq) cq), (5, ni i), (28, .bool (((UInt16.toNat x22a : Nat) : Int) != ((UInt16.toNat x25a : Nat) : Int)))] (En18.sb) (Hv15.trans (Ev.drew Hv15.heap)) ?_ fun ac61 wo62 En63 Hv64 => ?_
     ·
      refine s_p [] ?_
      refine s_p [] ?_
      have hb29 : i < List.length xp := (by omega)
      refine s_c (fun Mx30 ac31 wo32 En33 Hv34 => ?_) ?_
      ·
       refine q_v (x := Instr.indexAt 34 (.slice ap (List.length xp) cp) (ni i)) (v := .pointer (some (Addr.add adp (i * 2)))) En33 (Go.Dbr.run_indexsl (e := 49) (sz := 2) (j := i) (jo := i * 2) hadp (by kernel_rfl) (by kernel_rfl) (by omega) hb29 rfl _) fun ac35 En36 => ?_
       exact s_e En36 Hv34
      refine s_p [] ?_
      refine s_c (fun Mx37 ac38 wo39 En40 Hv41 => ?_) ?_
      ·
       refine op_loadf (d := some 21) (t := 37) (ad := adp) (ao := ap) (ys := List.flatMap fSha xp) (o := i * 2) (v := uv16 x22a) En40 (by kernel_rfl) rfl (ip.ro.ev Hv41).reads hadp ((flat_get (sz := 2) (j := 0) (fun _ _ => rfl) hx21 (by decide)).trans rfl) (by kernel_rfl) ?_
       intro ac42 En43
       exact s_e En43 Hv41
      refine s_p [] ?_
      refine s_p [] ?_
      have hb46 : i < List.length xq := (by omega)
      refine s_c (fun Mx47 ac48 wo49 En50 Hv51 => ?_) ?_
      ·
       refine q_v (x := Instr.indexAt 34 (.slice aq (List.length xq) cq) (ni i)) (v := .pointer (some (Addr.add adq (i * 2)))) En50 (Go.Dbr.run_indexsl (e := 49) (sz := 2) (j := i) (jo := i * 2) hadq (by kernel_rfl) (by kernel_rfl) (by omega) hb46 rfl _) fun ac52 En53 => ?_
       exact s_e En53 Hv51
      refine s_p [] ?_
      refine s_c (fun Mx54 ac55 wo56 En57 Hv58 => ?_) ?_
      ·
       refine op_loadf (d := some 26) (t := 37) (ad := adq) (ao := aq) (ys := List.flatMap fSha xq) (o := i * 2) (v := uv16 x25a) En57 (by kernel_rfl) rfl (iq.ro.ev Hv58).reads hadq ((flat_get (sz := 2) (j := 0) (fun _ _ => rfl) hx24 (by decide)).trans rfl) (by kernel_rfl) ?_
       intro ac59 En60
       exact s_e En60 Hv58
      refine s_p [] ?_
      refine s_p [] ?_
      exact s_n
     have En68 := En63.fx (t := 28) (congrArg Value.bool hb26)
     refine q_a [12,13,14,15,16,17,18,19,20,21,22,23,24,25] [] 0 En68 fun ac69 En70 => ?_
     exact a_e ⟨En70.sb, Hv64.pk []⟩
    rintro ac71 wo72 ⟨En73, Hv74⟩
    refine then_normal ?_
    refine c_t En73 ?_
    refine d_s [0,1,4,5] [] En73 fun ac75 En76 => ?_
    refine wp_ret ?_
    refine block_ret ?_
    refine then_ret ?_
    refine then_ret ?_
    refine block_ret ?_
    refine then_ret ?_
    refine d_ret1 (t := 4) (v := .bool false) En76 (by kernel_rfl) (by kernel_rfl) ?_
    exact ⟨congrArg (fun b => Ending.returned (Value.bool b)) (same_no hx21 hx24 (fun g => by first | exact absurd (congrArg (fun z : UInt16 × Bs => ((UInt16.toNat z.1 : Nat) : Int)) g) (by assumption) | exact absurd (congrArg Prod.snd g) (by assumption))), Hv74.pk []⟩
   ·
    have hb26p : ((UInt16.toNat x22a : Nat) : Int) = ((UInt16.toNat x25a : Nat) : Int) := by simpa using hb26
    refine r_c (fun ac wo => Env ac 43 [(0, .slice ap (List.length xp) cp), (1, .slice aq (List.length xq) cq), (5, ni i), (42, .bool (!(x22b == x25b)))] ∧ Ev w [] wo []) ?_ ?_
    ·
     refine s_g0 [(0, .slice ap (List.length xp) cp), (1, .slice aq (List.length xq) cq), (5, ni i)] [0,1,2,3,4,5,6,7,8,9,10,11] [(17, .slice ap (List.length xp) cp), (18, ni i), (19, .pointer (some (Addr.add adp (i * 2)))), (20, .pointer (some (Addr.add adp (i * 2)))), (21, uv16 x22a), (22, .slice aq (List.length xq) cq), (23, ni i), (24, .pointer (some (Addr.add adq (i * 2)))), (25, .pointer (some (Addr.add adq (i * 2)))), (26, uv16 x25a), (27, .bool (((UInt16.toNat x22a : Nat) : Int) != ((UInt16.toNat x25a : Nat) : Int))), (28, .bool (((UInt16.toNat x22a : Nat) : Int) != ((UInt16.toNat x25a : Nat) : Int)))] 14 [(0, .slice ap (List.length xp) cp), (1, .slice aq (List.length xq) cq), (5, ni i), (28, .bool (((UInt16.toNat x22a : Nat) : Int) != ((UInt16.toNat x25a : Nat) : Int)))] (En18.sb) (Hv15.trans (Ev.drew Hv15.heap)) ?_ fun ac111 wo112 En113 Hv114 => ?_
     ·
      refine s_p [] ?_
      refine s_p [] ?_
      have hb79 : i < List.length xp := (by omega)
      refine s_c (fun Mx80 ac81 wo82 En83 Hv84 => ?_) ?_
      ·
       refine q_v (x := Instr.indexAt 34 (.slice ap (List.length xp) cp) (ni i)) (v := .pointer (some (Addr.add adp (i * 2)))) En83 (Go.Dbr.run_indexsl (e := 49) (sz := 2) (j := i) (jo := i * 2) hadp (by kernel_rfl) (by kernel_rfl) (by omega) hb79 rfl _) fun ac85 En86 => ?_
       exact s_e En86 Hv84
      refine s_p [] ?_
      refine s_c (fun Mx87 ac88 wo89 En90 Hv91 => ?_) ?_
      ·
       refine op_loadf (d := some 21) (t := 37) (ad := adp) (ao := ap) (ys := List.flatMap fSha xp) (o := i * 2) (v := uv16 x22a) En90 (by kernel_rfl) rfl (ip.ro.ev Hv91).reads hadp ((flat_get (sz := 2) (j := 0) (fun _ _ => rfl) hx21 (by decide)).trans rfl) (by kernel_rfl) ?_
       intro ac92 En93
       exact s_e En93 Hv91
      refine s_p [] ?_
      refine s_p [] ?_
      have hb96 : i < List.length xq := (by omega)
      refine s_c (fun Mx97 ac98 wo99 En100 Hv101 => ?_) ?_
      ·
       refine q_v (x := Instr.indexAt 34 (.slice aq (List.length xq) cq) (ni i)) (v := .pointer (some (Addr.add adq (i * 2)))) En100 (Go.Dbr.run_indexsl (e := 49) (sz := 2) (j := i) (jo := i * 2) hadq (by kernel_rfl) (by kernel_rfl) (by omega) hb96 rfl _) fun ac102 En103 => ?_
       exact s_e En103 Hv101
      refine s_p [] ?_
      refine s_c (fun Mx104 ac105 wo106 En107 Hv108 => ?_) ?_
      ·
       refine op_loadf (d := some 26) (t := 37) (ad := adq) (ao := aq) (ys := List.flatMap fSha xq) (o := i * 2) (v := uv16 x25a) En107 (by kernel_rfl) rfl (iq.ro.ev Hv108).reads hadq ((flat_get (sz := 2) (j := 0) (fun _ _ => rfl) hx24 (by decide)).trans rfl) (by kernel_rfl) ?_
       intro ac109 En110
       exact s_e En110 Hv108
      refine s_p [] ?_
      refine s_p [] ?_
      exact s_n
     refine any_name fun G hG => ?_
     have nd168 : ∀ (ac : Act) (wo : World), Env ac 43 [(0, .slice ap (List.length xp) cp), (1, .slice aq (List.length xq) cq), (5, ni i), (28, .bool false), (34, .string (bstr x22b)), (39, .slice a_x25b (List.length x25b) c_x25b)] → Ev w [] wo [] → G 3 #[true, true, true, true, true, true, true, true, true, true, true, true, true, true, true, true, true, true, true, true, true, true, true, false, false, false] ac wo := by
      intro ac169 wo170 En171 Hv172
      refine any_from hG ?_
      refine q_u 23 ?_
      refine op_str (d := some 40) (src := 23) (dst := 9) (e := 5) (ao := a_x25b) (cap := c_x25b) (p := List.length x25b) (bs := x25b) En171 (by kernel_rfl) rfl (by kernel_rfl) (by kernel_rfl) (by kernel_rfl) (i_x25b.ev Hv172).reads i_x25b.nz ?_
      intro ac173 En174
      refine q_a [24,25] [(24, g_v (show (.bool (!(ByteArray.toList (bstr x22b) == ByteArray.toList (bstr x25b))) : Value) = .bool (!(x22b == x25b)) by rw [Go.Dbr.bstr_eq x22b x25b] <;> rfl))] 0 En174 fun ac175 En176 => ?_
      exact a_e ⟨En176.sb, Hv172.pk []⟩
     have nd177 : ∀ (ac : Act) (wo : World), Env ac 43 [(0, .slice ap (List.length xp) cp), (1, .slice aq (List.length xq) cq), (5, ni i), (28, .bool false), (33, .slice a_x22b (List.length x22b) c_x22b), (40, .string (bstr x25b))] → Ev w [] wo [] → G 3 #[true, true, true, true, true, true, true, true, true, true, true, true, true, true, true, true, true, false, true, true, true, true, true, true, false, false] ac wo := by
      intro ac178 wo179 En180 Hv181
      refine any_from hG ?_
      refine q_u 17 ?_
      refine op_str (d := some 34) (src := 23) (dst := 9) (e := 5) (ao := a_x22b) (cap := c_x22b) (p := List.length x22b) (bs := x22b) En180 (by kernel_rfl) rfl (by kernel_rfl) (by kernel_rfl) (by kernel_rfl) (i_x22b.ev Hv181).reads i_x22b.nz ?_
      intro ac182 En183
      refine q_a [24,25] [(24, g_v (show (.bool (!(ByteArray.toList (bstr x22b) == ByteArray.toList (bstr x25b))) : Value) = .bool (!(x22b == x25b)) by rw [Go.Dbr.bstr_eq x22b x25b] <;> rfl))] 0 En183 fun ac184 En185 => ?_
      exact a_e ⟨En185.sb, Hv181.pk []⟩
     have nd186 : ∀ (ac : Act) (wo : World), Env ac 43 [(0, .slice ap (List.length xp) cp), (1, .slice aq (List.length xq) cq), (5, ni i), (28, .bool false), (34, .string (bstr x22b)), (38, .pointer (some (Addr.add (Addr.add adq (i * 2)) 1)))] → Ev w [] wo [] → G 4 #[true, true, true, true, true, true, true, true, true, true, true, true, true, true, true, true, true, true, true, true, true, true, false, false, false, false] ac wo := by
      intro ac187 wo188 En189 Hv190
      refine any_from hG ?_
      refine q_u 22 ?_
      refine op_loadf (d := some 39) (t := 23) (ad := adq) (ao := aq) (ys := List.flatMap fSha xq) (o := i * 2 + 1) (v := .slice a_x25b (List.length x25b) c_x25b) En189 (by kernel_rfl) (Deep.add_add _ _ _) (iq.ro.ev Hv190).reads hadq ((flat_get (sz := 2) (j := 1) (fun _ _ => rfl) hx24 (by decide)).trans rfl) (by kernel_rfl) ?_
      intro ac191 En192
      refine q_u 23 ?_
      refine op_str (d := some 40) (src := 23) (dst := 9) (e := 5) (ao := a_x25b) (cap := c_x25b) (p := List.length x25b) (bs := x25b) En192 (by kernel_rfl) rfl (by kernel_rfl) (by kernel_rfl) (by kernel_rfl) (i_x25b.ev Hv190).reads i_x25b.nz ?_
      intro ac193 En194
      refine q_a [24,25] [(24, g_v (show (.bool (!(ByteArray.toList (bstr x22b) == ByteArray.toList (bstr x25b))) : Value) = .bool (!(x22b == x25b)) by rw [Go.Dbr.bstr_eq x22b x25b] <;> rfl))] 0 En194 fun ac195 En196 => ?_
      exact a_e ⟨En196.sb, Hv190.pk []⟩
     have nd197 : ∀ (ac : Act) (wo : World), Env ac 43 [(0, .slice ap (List.length xp) cp), (1, .slice aq (List.length xq) cq), (5, ni i), (28, .bool false), (33, .slice a_x22b (List.length x22b) c_x22b), (39, .slice a_x25b (List.length x25b) c_x25b)] → Ev w [] wo [] → G 4 #[true, true, true, true, true, true, true, true, true, true, true, true, true, true, true, true, true, false, true, true, true, true, true, false, false, false] ac wo := by
      intro ac198 wo199 En200 Hv201
      refine any_from hG ?_
      refine any_two 17 23 (by kernel_rfl) ?_ ?_
      ·
       rintro _ rfl
       refine op_str (d := some 34) (src := 23) (dst := 9) (e := 5) (ao := a_x22b) (cap := c_x22b) (p := List.length x22b) (bs := x22b) En200 (by kernel_rfl) rfl (by kernel_rfl) (by kernel_rfl) (by kernel_rfl) (i_x22b.ev Hv201).reads i_x22b.nz ?_
       intro ac202 En203
       exact any_to hG (by kernel_rfl) (nd168 _ _ (En203.sb) (Hv201.pk []))
      ·
       rintro _ rfl
       refine op_str (d := some 40) (src := 23) (dst := 9) (e := 5) (ao := a_x25b) (cap := c_x25b) (p := List.length x25b) (bs := x25b) En200 (by kernel_rfl) rfl (by kernel_rfl) (by kernel_rfl) (by kernel_rfl) (i_x25b.ev Hv201).reads i_x25b.nz ?_
       intro ac204 En205
       exact any_to hG (by kernel_rfl) (nd177 _ _ (En205.sb) (Hv201.pk []))
     have nd206 : ∀ (ac : Act) (wo : World), Env ac 43 [(0, .slice ap (List.length xp) cp), (1, .slice aq (List.length xq) cq), (5, ni i), (28, .bool false), (32, .pointer (some (Addr.add (Addr.add adp (i * 2)) 1))), (40, .string (bstr x25b))] → Ev w [] wo [] → G 4 #[true, true, true, true, true, true, true, true, true, true, true, true, true, true, true, true, false, false, true, true, true, true, true, true, false, false] ac wo := by
      intro ac207 wo208 En209 Hv210
      refine any_from hG ?_
      refine q_u 16 ?_
      refine op_loadf (d := some 33) (t := 23) (ad := adp) (ao := ap) (ys := List.flatMap fSha xp) (o := i * 2 + 1) (v := .slice a_x22b (List.length x22b) c_x22b) En209 (by kernel_rfl) (Deep.add_add _ _ _) (ip.ro.ev Hv210).reads hadp ((flat_get (sz := 2) (j := 1) (fun _ _ => rfl) hx21 (by decide)).trans rfl) (by kernel_rfl) ?_
      intro ac211 En212
      refine q_u 17 ?_
      refine op_str (d := some 34) (src := 23) (dst := 9) (e := 5) (ao := a_x22b) (cap := c_x22b) (p := List.length x22b) (bs := x22b) En212 (by kernel_rfl) rfl (by kernel_rfl) (by kernel_rfl) (by kernel_rfl) (i_x22b.ev Hv210).reads i_x22b.nz ?_
      intro ac213 En214
      refine q_a [24,25] [(24, g_v (show (.bool (!(ByteArray.toList (bstr x22b) == ByteArray.toList (bstr x25b))) : Value) = .bool (!(x22b == x25b)) by rw [Go.Dbr.bstr_eq x22b x25b] <;> rfl))] 0 En214 fun ac215 En216 => ?_
      exact a_e ⟨En216.sb, Hv210.pk []⟩
     have nd217 : ∀ (ac : Act) (wo : World), Env ac 43 [(0, .slice ap (List.length xp) cp), (1, .slice aq (List.length xq) cq), (5, ni i), (28, .bool false), (33, .slice a_x22b (List.length x22b) c_x22b), (38, .pointer (some (Addr.add (Addr.add adq (i * 2)) 1)))] → Ev w [] wo [] → G 5 #[true, true, true, true, true, true, true, true, true, true, true, true, true, true, true, true, true, false, true, true, true, true, false, false, false, false] ac wo := by
      intro ac218 wo219 En220 Hv221
      refine any_from hG ?_
      refine any_two 17 22 (by kernel_rfl) ?_ ?_
      ·
       rintro _ rfl
       refine op_str (d := some 34) (src := 23) (dst := 9) (e := 5) (ao := a_x22b) (cap := c_x22b) (p := List.length x22b) (bs := x22b) En220 (by kernel_rfl) rfl (by kernel_rfl) (by kernel_rfl) (by kernel_rfl) (i_x22b.ev Hv221).reads i_x22b.nz ?_
       intro ac222 En223
       exact any_to hG (by kernel_rfl) (nd186 _ _ (En223.sb) (Hv221.pk []))
      ·
       rintro _ rfl
       refine op_loadf (d := some 39) (t := 23) (ad := adq) (ao := aq) (ys := List.flatMap fSha xq) (o := i * 2 + 1) (v := .slice a_x25b (List.length x25b) c_x25b) En220 (by kernel_rfl) (Deep.add_add _ _ _) (iq.ro.ev Hv221).reads hadq ((flat_get (sz := 2) (j := 1) (fun _ _ => rfl) hx24 (by decide)).trans rfl) (by kernel_rfl) ?_
       intro ac224 En225
       exact any_to hG (by kernel_rfl) (nd197 _ _ (En225.sb) (Hv221.pk []))
     have nd226 : ∀ (ac : Act) (wo : World), Env ac 43 [(0, .slice ap (List.length xp) cp), (1, .slice aq (List.length xq) cq), (5, ni i), (28, .bool false), (32, .pointer (some (Addr.add (Addr.add adp (i * 2)) 1))), (39, .slice a_x25b (List.length x25b) c_x25b)] → Ev w [] wo [] → G 5 #[true, true, true, true, true, true, true, true, true, true, true, true, true, true, true, true, false, false, true, true, true, true, true, false, false, false] ac wo := by
      intro ac227 wo228 En229 Hv230
      refine any_from hG ?_
      refine any_two 16 23 (by kernel_rfl) ?_ ?_
      ·
       rintro _ rfl
       refine op_loadf (d := some 33) (t := 23) (ad := adp) (ao := ap) (ys := List.flatMap fSha xp) (o := i * 2 + 1) (v := .slice a_x22b (List.length x22b) c_x22b) En229 (by kernel_rfl) (Deep.add_add _ _ _) (ip.ro.ev Hv230).reads hadp ((flat_get (sz := 2) (j := 1) (fun _ _ => rfl) hx21 (by decide)).trans rfl) (by kernel_rfl) ?_
       intro ac231 En232
       exact any_to hG (by kernel_rfl) (nd197 _ _ (En232.sb) (Hv230.pk []))
      ·
       rintro _ rfl
       refine op_str (d := some 40) (src := 23) (dst := 9) (e := 5) (ao := a_x25b) (cap := c_x25b) (p := List.length x25b) (bs := x25b) En229 (by kernel_rfl) rfl (by kernel_rfl) (by kernel_rfl) (by kernel_rfl) (i_x25b.ev Hv230).reads i_x25b.nz ?_
       intro ac233 En234
       exact any_to hG (by kernel_rfl) (nd206 _ _ (En234.sb) (Hv230.pk []))
     refine any_from hG ?_
     have En235 := En113.fx (t := 28) (congrArg Value.bool hb26)
     have hb238 : i < List.length xp := (by omega)
     refine q_a [12,13] [] 12 En235 fun ac239 En240 => ?_
     refine q_g 14 (s := Instr.indexAt 34 (.slice ap (List.length xp) cp) (ni i)) (v := .pointer (some (Addr.add adp (i * 2)))) En240 (fun _ => Go.Dbr.run_indexsl (e := 49) (sz := 2) (j := i) (jo := i * 2) hadp (by kernel_rfl) (by kernel_rfl) (by omega) hb238 rfl _) fun ac241 En242 => ?_
     have hb245 : i < List.length xq := (by omega)
     refine q_a [15,18,19] [] 8 En242 fun ac246 En247 => ?_
     refine q_g 20 (s := Instr.indexAt 34 (.slice aq (List.length xq) cq) (ni i)) (v := .pointer (some (Addr.add adq (i * 2)))) En247 (fun _ => Go.Dbr.run_indexsl (e := 49) (sz := 2) (j := i) (jo := i * 2) hadq (by kernel_rfl) (by kernel_rfl) (by omega) hb245 rfl _) fun ac248 En249 => ?_
     refine q_a [21] [] 6 En249 fun ac250 En251 => ?_
     refine any_two 16 22 (by kernel_rfl) ?_ ?_
     ·
      rintro _ rfl
      refine op_loadf (d := some 33) (t := 23) (ad := adp) (ao := ap) (ys := List.flatMap fSha xp) (o := i * 2 + 1) (v := .slice a_x22b (List.length x22b) c_x22b) En251 (by kernel_rfl) (Deep.add_add _ _ _) (ip.ro.ev Hv114).reads hadp ((flat_get (sz := 2) (j := 1) (fun _ _ => rfl) hx21 (by decide)).trans rfl) (by kernel_rfl) ?_
      intro ac252 En253
      exact any_to hG (by kernel_rfl) (nd217 _ _ (En253.sb) (Hv114.pk []))
     ·
      rintro _ rfl
      refine op_loadf (d := some 39) (t := 23) (ad := adq) (ao := aq) (ys := List.flatMap fSha xq) (o := i * 2 + 1) (v := .slice a_x25b (List.length x25b) c_x25b) En251 (by kernel_rfl) (Deep.add_add _ _ _) (iq.ro.ev Hv114).reads hadq ((flat_get (sz := 2) (j := 1) (fun _ _ => rfl) hx24 (by decide)).trans rfl) (by kernel_rfl) ?_
      intro ac254 En255
      exact any_to hG (by kernel_rfl) (nd226 _ _ (En255.sb) (Hv114.pk []))
    rintro ac256 wo257 ⟨En258, Hv259⟩
    refine then_normal ?_
    refine cond_at En258 (t := !(x22b == x25b)) (by kernel_rfl) (fun hc260 => ?_) (fun hc260 => ?_)
    ·
     replace hc260 : x22b ≠ x25b := by simpa using hc260
     refine d_s [0,1,4,5] [] En258 fun ac261 En262 => ?_
     refine wp_ret ?_
     refine block_ret ?_
     refine then_ret ?_
     refine then_ret ?_
     refine block_ret ?_
     refine then_ret ?_
     refine d_ret1 (t := 4) (v := .bool false) En262 (by kernel_rfl) (by kernel_rfl) ?_
     exact ⟨congrArg (fun b => Ending.returned (Value.bool b)) (same_no hx21 hx24 (fun g => by first | exact absurd (congrArg (fun z : UInt16 × Bs => ((UInt16.toNat z.1 : Nat) : Int)) g) (by assumption) | exact absurd (congrArg Prod.snd g) (by assumption))), Hv259.pk []⟩
    ·
     replace hc260 : ¬ (x22b ≠ x25b) := by simpa using hc260
     refine wp_skip ?_
     refine block_normal ?_
     refine then_normal ?_
     refine d_r [0,1,5] [(1, g_n (w_a i 1))] En258 fun ac263 En264 => ?_
     refine then_normal ?_
     refine ⟨_, ⟨i + 1, rfl, En264.sb, Hv259.pk [], (same_step hx21 hx24 (pair_eq (u16_eq (x := x22a) (y := x25a) (by omega)) (Classical.not_not.1 (by assumption))) hp)⟩, ?_⟩
     omega
  ·
   refine wp_exit ?_
   refine then_exit ?_
   refine then_exit ?_
   refine block_exit ?_
   refine then_normal ?_
   refine d_s [0,1,4,5] [] En18 fun ac265 En266 => ?_
   refine wp_ret ?_
   refine d_ret1 (t := 4) (v := .bool true) En266 (by kernel_rfl) (by kernel_rfl) ?_
   exact ⟨congrArg (fun b => Ending.returned (Value.bool b)) (same_all (by omega) (by omega) hp), Hv15.pk []⟩

end Go.Proofs.Ytofecellbfhnjaa
