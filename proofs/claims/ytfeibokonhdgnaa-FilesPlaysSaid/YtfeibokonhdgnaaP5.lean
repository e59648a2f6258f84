/- Layer 2: a call to both stores; FilesPlays. -/
import Derived.Test.YtfeibokonhdgnaaP4
import Derived.Test.YtfeibokonhdgnaaK6
namespace Go.Proofs.Ytfeibokonhdgnaa
open Go.Dbr
set_option maxRecDepth 100000
set_option maxHeartbeats 2000000
set_option linter.unusedVariables false
set_option linter.unusedSimpArgs false

theorem do_go (w : World) (sb mb tb : Nat) (m : FM) (ax : Option Addr) (cx : Nat) (xs : List RF) (D : List Inn) (I : Inv m xs D) (oa : Int) (ob : List UInt8) (a_oc : Option Addr) (c_oc : Nat) (oc : List UInt8) (od : Int) (b_oa : (-9223372036854775808 ≤ oa ∧ oa ≤ 9223372036854775807)) (s_ob : (List.length ob ≤ 140737488351232)) (i_oc : InB w [.box sb [.map (some mb)] 52, .map mb (kvs FV.v m), .box tb [.slice ax (List.length xs) cx] 43, .vec ax cx 5 (List.flatMap fRF xs) 48, .grp D] a_oc c_oc oc) (b_od : (-9223372036854775808 ≤ od ∧ od ≤ 9223372036854775807)) (hH : Heap w [.box sb [.map (some mb)] 52, .map mb (kvs FV.v m), .box tb [.slice ax (List.length xs) cx] 43, .vec ax cx 5 (List.flatMap fRF xs) 48, .grp D]) : Calls Try.prog 16 #[pt sb, pt tb, .agg #[.int .i64 oa, .string (bstr ob), .slice a_oc (List.length oc) c_oc, .int .i64 od]] w fun e w' => ∃ m2 xs2 D2 ay cy, e = .returned (.bool true) ∧ Ev w [.box sb [.map (some mb)] 52, .map mb (kvs FV.v m), .box tb [.slice ax (List.length xs) cx] 43, .vec ax cx 5 (List.flatMap fRF xs) 48, .grp D] w' [.box sb [.map (some mb)] 52, .map mb (kvs FV.v m2), .box tb [.slice ay (List.length xs2) cy] 43, .vec ay cy 5 (List.flatMap fRF xs2) 48, .grp D2] ∧ Inv m2 xs2 D2 := by
 have hos := i_oc.small
 have h64 := I.len
 refine d_0 [(0, pt sb), (1, pt tb), (2, .agg #[.int .i64 oa, .string (bstr ob), .slice a_oc (List.length oc) c_oc, .int .i64 od])] 138 Go.Proofs.Try.func16 Go.Proofs.Try.ntmps16 (hH) fun act0 En0 Hv0 => ?_
 refine wp_seq ?_
 refine region_from ?_
 refine f_o ?_
 refine m_m 46 [.int .i64 oa, .string (bstr ob), .slice a_oc (List.length oc) c_oc, .int .i64 od] En0 Hv0 fun ac2 wo3 bk1 En4 Hv5 => ?_
 refine d_e [0,1,5,6] [] En4 fun ac6 En7 => ?_
 refine then_normal ?_
 refine wp_seq ?_
 refine region_from ?_
 refine f_o ?_
 refine op_lit (d := some 17) (t := 22) (T := 5) (m := 0) (parts := #[]) (xs := bys []) (sz := 1) En7 (by kernel_rfl) (by kernel_rfl) rfl (by decide) Hv5 ?_
 intro ac9 wo10 bk8 En11 Hv12
 refine d_k [0,1,5,6,17,18] [] 2 En11 fun ac13 En14 => ?_
 refine f_o ?_
 refine m_l 5 En14 Hv12 fun ac15 En16 => ?_
 refine f_o ?_
 have hsm17 := i_oc.small
 refine op_append (d := some 20) (t := 22) (tx := 22) (ty := 22) (k := 6) (p := 0) (m := List.length oc) (x := .slice a_oc (List.length oc) c_oc) (bytes := 1) En16 (by kernel_rfl) Hv12 rfl rfl (Reads.src (size := 1) (tx := 22) (e' := 5) (by kernel_rfl) (i_oc.ev Hv12).reads (bys_len _) i_oc.nz (bys_one _)) (by kernel_rfl) (z := .int .u8 0) (by kernel_rfl) rfl (by decide) (by omega) (by unfold maxLen; omega) ?_
 intro ac22 wo23 ao18 cp19 En24 Hv25 hnz _
 clear hnz
 rw [bys_nil_append] at Hv25
 have ehz20 : 0 + (List.length oc) = List.length oc := (by first | (simp; done) | (simp; omega) | omega)
 rw [ehz20] at En24
 refine d_e [0,1,5,6,7] [] En24 fun ac26 En27 => ?_
 refine then_normal ?_
 refine wp_seq ?_
 refine d_r [0,1,5,6,7,8] [] En27 fun ac28 En29 => ?_
 refine then_normal ?_
 refine wp_seq ?_
 refine d_r [0,1,5,6,7,8,9] [] En29 fun ac30 En31 => ?_
 refine then_normal ?_
 refine wp_seq ?_
 refine wp_seq ?_
 refine region_from ?_
 refine d_k [0,1,5,6,7,8,9,21] [] 1 En31 fun ac32 En33 => ?_
 refine f_o ?_
 refine m_l 5 En33 Hv25 fun ac34 En35 => ?_
 refine f_e ?_
 refine then_normal ?_
 refine region_cut (F := fun ac wo => ∃ (m2 : FM) (xs2 : List RF) (D2 : List Inn) (ay : Option Addr) (cy : Nat) (c9 : Int), Env ac 138 [(0, pt sb), (1, pt tb), (5, pt bk1), (6, .bool false), (7, .slice ao18 (List.length oc) cp19), (8, .int .i64 c9), (9, .int .i64 c9), (22, .int .i64 oa)] ∧ Ev w [.box sb [.map (some mb)] 52, .map mb (kvs FV.v m), .box tb [.slice ax (List.length xs) cx] 43, .vec ax cx 5 (List.flatMap fRF xs) 48, .grp D] wo [.box sb [.map (some mb)] 52, .map mb (kvs FV.v m2), .box tb [.slice ay (List.length xs2) cy] 43, .vec ay cy 5 (List.flatMap fRF xs2) 48, .grp D2, .box bk1 [.int .i64 oa, .string (bstr ob), .slice a_oc (List.length oc) c_oc, .int .i64 od] 46, .vec ao18 cp19 1 (bys oc) 5] ∧ (Inv m2 xs2 D2)) ?_ ?_
 ·
  refine wp_block ?_
  refine wp_seq ?_
  refine d_r [0,1,5,6,7,8,9,22,23] [] En35 fun ac36 En37 => ?_
  refine then_normal ?_
  refine c_e oa (0 : Int) En37 (fun hc38 => ?_) (fun hc38 => ?_)
  ·
   refine wp_seq ?_
   refine region_from ?_
   refine d_k [0,1,5,6,7,8,9,22,25,26] [] 2 En37 fun ac39 En40 => ?_
   refine f_o ?_
   refine m_l 5 En40 Hv25 fun ac41 En42 => ?_
   refine d_k [0,1,5,6,7,8,9,22,25,27,28] [] 4 En42 fun ac43 En44 => ?_
   rcases Decidable.em (mayX ob (List.length oc) (hitX ob xs) (List.length xs) = 0) with hm | hm
   ·
    refine f_o ?_
    refine c_l [0,1] (M := [.box sb [.map (some mb)] 52, .map mb (kvs FV.v m)]) En44 Hv25 (fun hM47 => put_ok _ sb mb m ob (by assumption) ao18 cp19 oc (bys_in Hv25.heap (k := 6) rfl [0, 1] (by kernel_rfl) rfl (by first | omega | (simp; done) | (simp; omega))) ((I.may (List.length oc)).trans hm) hM47) ?_
    rintro _ wo48 ⟨ao45, co46, rfl, he49⟩
    refine ⟨_, _, [.box sb [.map (some mb)] 52, .map mb (kvs FV.v (kvPut ob ⟨ao45, List.length oc, co46, none, 0, 0, false, 0⟩ m)), .vec ao45 co46 1 (bys oc) 5, .box tb [.slice ax (List.length xs) cx] 43, .vec ax cx 5 (List.flatMap fRF xs) 48, .grp D, .box bk1 [.int .i64 oa, .string (bstr ob), .slice a_oc (List.length oc) c_oc, .int .i64 od] 46, .vec ao18 cp19 1 (bys oc) 5], rfl, he49, by kernel_rfl, fun ac51 En52 Hv53 => ?_⟩
    have Hv54 : Ev w [.box sb [.map (some mb)] 52, .map mb (kvs FV.v m), .box tb [.slice ax (List.length xs) cx] 43, .vec ax cx 5 (List.flatMap fRF xs) 48, .grp D] wo48 [.box sb [.map (some mb)] 52, .map mb (kvs FV.v (kvPut ob ⟨ao45, List.length oc, co46, none, 0, 0, false, 0⟩ m)), .box tb [.slice ax (List.length xs) cx] 43, .vec ax cx 5 (List.flatMap fRF xs) 48, .box bk1 [.int .i64 oa, .string (bstr ob), .slice a_oc (List.length oc) c_oc, .int .i64 od] 46, .vec ao18 cp19 1 (bys oc) 5, .grp (D ++ [inn ao45 co46 oc])] := Ev.group (M := [.box sb [.map (some mb)] 52, .map mb (kvs FV.v (kvPut ob ⟨ao45, List.length oc, co46, none, 0, 0, false, 0⟩ m)), .box tb [.slice ax (List.length xs) cx] 43, .vec ax cx 5 (List.flatMap fRF xs) 48, .box bk1 [.int .i64 oa, .string (bstr ob), .slice a_oc (List.length oc) c_oc, .int .i64 od] 46, .vec ao18 cp19 1 (bys oc) 5]) Hv53 [0,1,3,4,6,7] [5,2] (by kernel_rfl) rfl (by decide)
    refine d_e [0,1,5,6,7,8,9,22] [] En52 fun ac55 En56 => ?_
    refine then_normal ?_
    refine region_from ?_
    refine d_k [0,1,5,6,7,8,9,22,30,31] [] 2 En56 fun ac57 En58 => ?_
    refine f_o ?_
    refine m_l 4 En58 Hv54 fun ac59 En60 => ?_
    refine d_k [0,1,5,6,7,8,9,22,30,32,33] [] 4 En60 fun ac61 En62 => ?_
    refine f_o ?_
    refine m_l 4 En62 Hv54 fun ac63 En64 => ?_
    refine f_o ?_
    refine c_l [2,3] (M := [.box tb [.slice ax (List.length xs) cx] 43, .vec ax cx 5 (List.flatMap fRF xs) 48]) En64 Hv54 (fun hM69 => rput_ok _ tb ax cx xs (I.len) ob (by assumption) a_oc c_oc oc ((i_oc.ev Hv54).pick [2, 3] (by kernel_rfl)) hm hM69) ?_
    rintro _ wo70 ⟨ay65, cy66, ao67, co68, rfl, he71⟩
    refine ⟨_, _, [.box tb [.slice ay65 (List.length (List.set (madeX ob xs) (plc ob xs) (ob, ⟨ao67, co68, oc⟩, false, ⟨none, 0, []⟩, 0, ()))) cy66] 43, .vec ay65 cy66 5 (List.flatMap fRF (List.set (madeX ob xs) (plc ob xs) (ob, ⟨ao67, co68, oc⟩, false, ⟨none, 0, []⟩, 0, ()))) 48, .vec ao67 co68 1 (bys oc) 5, .box sb [.map (some mb)] 52, .map mb (kvs FV.v (kvPut ob ⟨ao45, List.length oc, co46, none, 0, 0, false, 0⟩ m)), .box bk1 [.int .i64 oa, .string (bstr ob), .slice a_oc (List.length oc) c_oc, .int .i64 od] 46, .vec ao18 cp19 1 (bys oc) 5, .grp (D ++ [inn ao45 co46 oc])], rfl, he71, by kernel_rfl, fun ac73 En74 Hv75 => ?_⟩
    have Hv76 : Ev w [.box sb [.map (some mb)] 52, .map mb (kvs FV.v m), .box tb [.slice ax (List.length xs) cx] 43, .vec ax cx 5 (List.flatMap fRF xs) 48, .grp D] wo70 [.box tb [.slice ay65 (List.length (List.set (madeX ob xs) (plc ob xs) (ob, ⟨ao67, co68, oc⟩, false, ⟨none, 0, []⟩, 0, ()))) cy66] 43, .vec ay65 cy66 5 (List.flatMap fRF (List.set (madeX ob xs) (plc ob xs) (ob, ⟨ao67, co68, oc⟩, false, ⟨none, 0, []⟩, 0, ()))) 48, .box sb [.map (some mb)] 52, .map mb (kvs FV.v (kvPut ob ⟨ao45, List.length oc, co46, none, 0, 0, false, 0⟩ m)), .box bk1 [.int .i64 oa, .string (bstr ob), .slice a_oc (List.length oc) c_oc, .int .i64 od] 46, .vec ao18 cp19 1 (bys oc) 5, .grp ((D ++ [inn ao45 co46 oc]) ++ [inn ao67 co68 oc])] := Ev.group (M := [.box tb [.slice ay65 (List.length (List.set (madeX ob xs) (plc ob xs) (ob, ⟨ao67, co68, oc⟩, false, ⟨none, 0, []⟩, 0, ()))) cy66] 43, .vec ay65 cy66 5 (List.flatMap fRF (List.set (madeX ob xs) (plc ob xs) (ob, ⟨ao67, co68, oc⟩, false, ⟨none, 0, []⟩, 0, ()))) 48, .box sb [.map (some mb)] 52, .map mb (kvs FV.v (kvPut ob ⟨ao45, List.length oc, co46, none, 0, 0, false, 0⟩ m)), .box bk1 [.int .i64 oa, .string (bstr ob), .slice a_oc (List.length oc) c_oc, .int .i64 od] 46, .vec ao18 cp19 1 (bys oc) 5]) Hv75 [0,1,3,4,5,6] [7,2] (by kernel_rfl) rfl (by decide)
    refine d_e [0,1,5,6,7,8,9,22] [] En74 fun ac77 En78 => ?_
    refine block_normal ?_
    exact ⟨rfl, ⟨(kvPut ob ⟨ao45, List.length oc, co46, none, 0, 0, false, 0⟩ m), (List.set (madeX ob xs) (plc ob xs) (ob, ⟨ao67, co68, oc⟩, false, ⟨none, 0, []⟩, 0, ())), ((D ++ [inn ao45 co46 oc]) ++ [inn ao67 co68 oc]), ay65, cy66, (0 : Int), En78.sub (by kernel_rfl), Hv76.pick [2, 3, 0, 1, 6, 4, 5] (by kernel_rfl) (by decide), (I.put hm _ _ _ _)⟩⟩
   ·
    refine f_o ?_
    refine c_l [0,1] (M := [.box sb [.map (some mb)] 52, .map mb (kvs FV.v m)]) En44 Hv25 (fun hM79 => put_badX _ sb mb m ob (by assumption) ao18 cp19 oc (bys_in Hv25.heap (k := 6) rfl [0, 1] (by kernel_rfl) rfl (by first | omega | (simp; done) | (simp; omega))) (mayX ob (List.length oc) (hitX ob xs) (List.length xs)) (I.may (List.length oc)) hm hM79) ?_
    rintro _ wo80 ⟨rfl, he81⟩
    refine ⟨_, _, [.box sb [.map (some mb)] 52, .map mb (kvs FV.v m), .box tb [.slice ax (List.length xs) cx] 43, .vec ax cx 5 (List.flatMap fRF xs) 48, .grp D, .box bk1 [.int .i64 oa, .string (bstr ob), .slice a_oc (List.length oc) c_oc, .int .i64 od] 46, .vec ao18 cp19 1 (bys oc) 5], rfl, he81, by kernel_rfl, fun ac83 En84 Hv85 => ?_⟩
    refine d_e [0,1,5,6,7,8,9,22] [] En84 fun ac86 En87 => ?_
    refine then_normal ?_
    refine region_from ?_
    refine d_k [0,1,5,6,7,8,9,22,30,31] [] 2 En87 fun ac88 En89 => ?_
    refine f_o ?_
    refine m_l 5 En89 Hv85 fun ac90 En91 => ?_
    refine d_k [0,1,5,6,7,8,9,22,30,32,33] [] 4 En91 fun ac92 En93 => ?_
    refine f_o ?_
    refine m_l 5 En93 Hv85 fun ac94 En95 => ?_
    refine f_o ?_
    refine c_l [2,3] (M := [.box tb [.slice ax (List.length xs) cx] 43, .vec ax cx 5 (List.flatMap fRF xs) 48]) En95 Hv85 (fun hM96 => rput_bad _ tb ax cx xs (I.len) ob (by assumption) a_oc c_oc oc ((i_oc.ev Hv85).pick [2, 3] (by kernel_rfl)) hm hM96) ?_
    rintro _ wo97 ⟨rfl, he98⟩
    refine ⟨_, _, [.box tb [.slice ax (List.length xs) cx] 43, .vec ax cx 5 (List.flatMap fRF xs) 48, .box sb [.map (some mb)] 52, .map mb (kvs FV.v m), .grp D, .box bk1 [.int .i64 oa, .string (bstr ob), .slice a_oc (List.length oc) c_oc, .int .i64 od] 46, .vec ao18 cp19 1 (bys oc) 5], rfl, he98, by kernel_rfl, fun ac100 En101 Hv102 => ?_⟩
    refine d_e [0,1,5,6,7,8,9,22] [] En101 fun ac103 En104 => ?_
    refine block_normal ?_
    exact ⟨rfl, ⟨m, xs, D, ax, cx, mayX ob (List.length oc) (hitX ob xs) (List.length xs), En104.sub (by kernel_rfl), Hv102.pick [2, 3, 0, 1, 4, 5, 6] (by kernel_rfl) (by decide), I⟩⟩
  ·
   refine wp_seq ?_
   refine d_r [0,1,5,6,7,8,9,22,36] [] En37 fun ac105 En106 => ?_
   refine then_normal ?_
   refine c_e oa (1 : Int) En106 (fun hc107 => ?_) (fun hc107 => ?_)
   ·
    refine wp_seq ?_
    refine region_from ?_
    refine d_k [0,1,5,6,7,8,9,22,38,39] [] 2 En106 fun ac108 En109 => ?_
    refine f_o ?_
    refine m_l 5 En109 Hv25 fun ac110 En111 => ?_
    refine d_k [0,1,5,6,7,8,9,22,38,40,41,42] [] 5 En111 fun ac112 En113 => ?_
    refine f_o ?_
    refine m_l 5 En113 Hv25 fun ac114 En115 => ?_
    rcases tear_ways (mayX ob (List.length oc) (hitX ob xs) (List.length xs)) (tornX ob xs) od (List.length oc) with hm | ⟨hm, htt⟩ | ⟨hm, htt, hk⟩ | ⟨hm, htt, k, hk1, hk⟩
    ·
     refine f_o ?_
     refine c_l [0,1] (M := [.box sb [.map (some mb)] 52, .map mb (kvs FV.v m)]) En115 Hv25 (fun hM116 => tear_mayX _ sb mb m ob (by assumption) ao18 cp19 oc (bys_in Hv25.heap (k := 6) rfl [0, 1] (by kernel_rfl) rfl (by first | omega | (simp; done) | (simp; omega))) od (mayX ob (List.length oc) (hitX ob xs) (List.length xs)) (I.may (List.length oc)) hm hM116) ?_
     rintro _ wo117 ⟨rfl, he118⟩
     refine ⟨_, _, [.box sb [.map (some mb)] 52, .map mb (kvs FV.v m), .box tb [.slice ax (List.length xs) cx] 43, .vec ax cx 5 (List.flatMap fRF xs) 48, .grp D, .box bk1 [.int .i64 oa, .string (bstr ob), .slice a_oc (List.length oc) c_oc, .int .i64 od] 46, .vec ao18 cp19 1 (bys oc) 5], rfl, he118, by kernel_rfl, fun ac120 En121 Hv122 => ?_⟩
     refine d_e [0,1,5,6,7,8,9,22] [] En121 fun ac123 En124 => ?_
     refine then_normal ?_
     refine region_from ?_
     refine d_k [0,1,5,6,7,8,9,22,45,46] [] 2 En124 fun ac125 En126 => ?_
     refine f_o ?_
     refine m_l 5 En126 Hv122 fun ac127 En128 => ?_
     refine d_k [0,1,5,6,7,8,9,22,45,47,48] [] 4 En128 fun ac129 En130 => ?_
     refine f_o ?_
     refine m_l 5 En130 Hv122 fun ac131 En132 => ?_
     refine d_k [0,1,5,6,7,8,9,22,45,47,49,50] [] 6 En132 fun ac133 En134 => ?_
     refine f_o ?_
     refine m_l 5 En134 Hv122 fun ac135 En136 => ?_
     refine f_o ?_
     refine c_l [2,3] (M := [.box tb [.slice ax (List.length xs) cx] 43, .vec ax cx 5 (List.flatMap fRF xs) 48]) En136 Hv122 (fun hM137 => rtear_bad _ tb ax cx xs (I.len) ob (by assumption) a_oc c_oc oc ((i_oc.ev Hv122).pick [2, 3] (by kernel_rfl)) od hm hM137) ?_
     rintro _ wo138 ⟨rfl, he139⟩
     refine ⟨_, _, [.box tb [.slice ax (List.length xs) cx] 43, .vec ax cx 5 (List.flatMap fRF xs) 48, .box sb [.map (some mb)] 52, .map mb (kvs FV.v m), .grp D, .box bk1 [.int .i64 oa, .string (bstr ob), .slice a_oc (List.length oc) c_oc, .int .i64 od] 46, .vec ao18 cp19 1 (bys oc) 5], rfl, he139, by kernel_rfl, fun ac141 En142 Hv143 => ?_⟩
     refine d_e [0,1,5,6,7,8,9,22] [] En142 fun ac144 En145 => ?_
     refine block_normal ?_
     exact ⟨rfl, ⟨m, xs, D, ax, cx, mayX ob (List.length oc) (hitX ob xs) (List.length xs), En145.sub (by kernel_rfl), Hv143.pick [2, 3, 0, 1, 4, 5, 6] (by kernel_rfl) (by decide), I⟩⟩
    ·
     refine f_o ?_
     refine c_l [0,1] (M := [.box sb [.map (some mb)] 52, .map mb (kvs FV.v m)]) En115 Hv25 (fun hM146 => tear_tornX _ sb mb m ob (by assumption) ao18 cp19 oc (bys_in Hv25.heap (k := 6) rfl [0, 1] (by kernel_rfl) rfl (by first | omega | (simp; done) | (simp; omega))) od ((I.may (List.length oc)).trans hm) (I.torn.trans htt) hM146) ?_
     rintro _ wo147 ⟨rfl, he148⟩
     refine ⟨_, _, [.box sb [.map (some mb)] 52, .map mb (kvs FV.v m), .box tb [.slice ax (List.length xs) cx] 43, .vec ax cx 5 (List.flatMap fRF xs) 48, .grp D, .box bk1 [.int .i64 oa, .string (bstr ob), .slice a_oc (List.length oc) c_oc, .int .i64 od] 46, .vec ao18 cp19 1 (bys oc) 5], rfl, he148, by kernel_rfl, fun ac150 En151 Hv152 => ?_⟩
     refine d_e [0,1,5,6,7,8,9,22] [] En151 fun ac153 En154 => ?_
     refine then_normal ?_
     refine region_from ?_
     refine d_k [0,1,5,6,7,8,9,22,45,46] [] 2 En154 fun ac155 En156 => ?_
     refine f_o ?_
     refine m_l 5 En156 Hv152 fun ac157 En158 => ?_
     refine d_k [0,1,5,6,7,8,9,22,45,47,48] [] 4 En158 fun ac159 En160 => ?_
     refine f_o ?_
     refine m_l 5 En160 Hv152 fun ac161 En162 => ?_
     refine d_k [0,1,5,6,7,8,9,22,45,47,49,50] [] 6 En162 fun ac163 En164 => ?_
     refine f_o ?_
     refine m_l 5 En164 Hv152 fun ac165 En166 => ?_
     refine f_o ?_
     refine c_l [2,3] (M := [.box tb [.slice ax (List.length xs) cx] 43, .vec ax cx 5 (List.flatMap fRF xs) 48]) En166 Hv152 (fun hM167 => rtear_torn _ tb ax cx xs (I.len) ob (by assumption) a_oc c_oc oc ((i_oc.ev Hv152).pick [2, 3] (by kernel_rfl)) od hm htt hM167) ?_
     rintro _ wo168 ⟨rfl, he169⟩
     refine ⟨_, _, [.box tb [.slice ax (List.length xs) cx] 43, .vec ax cx 5 (List.flatMap fRF xs) 48, .box sb [.map (some mb)] 52, .map mb (kvs FV.v m), .grp D, .box bk1 [.int .i64 oa, .string (bstr ob), .slice a_oc (List.length oc) c_oc, .int .i64 od] 46, .vec ao18 cp19 1 (bys oc) 5], rfl, he169, by kernel_rfl, fun ac171 En172 Hv173 => ?_⟩
     refine d_e [0,1,5,6,7,8,9,22] [] En172 fun ac174 En175 => ?_
     refine block_normal ?_
     exact ⟨rfl, ⟨m, xs, D, ax, cx, (25 : Int), En175.sub (by kernel_rfl), Hv173.pick [2, 3, 0, 1, 4, 5, 6] (by kernel_rfl) (by decide), I⟩⟩
    ·
     refine f_o ?_
     refine c_l [0,1] (M := [.box sb [.map (some mb)] 52, .map mb (kvs FV.v m)]) En115 Hv25 (fun hM176 => tear_argX _ sb mb m ob (by assumption) ao18 cp19 oc (bys_in Hv25.heap (k := 6) rfl [0, 1] (by kernel_rfl) rfl (by first | omega | (simp; done) | (simp; omega))) od hk ((I.may (List.length oc)).trans hm) (I.torn.trans htt) hM176) ?_
     rintro _ wo177 ⟨rfl, he178⟩
     refine ⟨_, _, [.box sb [.map (some mb)] 52, .map mb (kvs FV.v m), .box tb [.slice ax (List.length xs) cx] 43, .vec ax cx 5 (List.flatMap fRF xs) 48, .grp D, .box bk1 [.int .i64 oa, .string (bstr ob), .slice a_oc (List.length oc) c_oc, .int .i64 od] 46, .vec ao18 cp19 1 (bys oc) 5], rfl, he178, by kernel_rfl, fun ac180 En181 Hv182 => ?_⟩
     refine d_e [0,1,5,6,7,8,9,22] [] En181 fun ac183 En184 => ?_
     refine then_normal ?_
     refine region_from ?_
     refine d_k [0,1,5,6,7,8,9,22,45,46] [] 2 En184 fun ac185 En186 => ?_
     refine f_o ?_
     refine m_l 5 En186 Hv182 fun ac187 En188 => ?_
     refine d_k [0,1,5,6,7,8,9,22,45,47,48] [] 4 En188 fun ac189 En190 => ?_
     refine f_o ?_
     refine m_l 5 En190 Hv182 fun ac191 En192 => ?_
     refine d_k [0,1,5,6,7,8,9,22,45,47,49,50] [] 6 En192 fun ac193 En194 => ?_
     refine f_o ?_
     refine m_l 5 En194 Hv182 fun ac195 En196 => ?_
     refine f_o ?_
     refine c_l [2,3] (M := [.box tb [.slice ax (List.length xs) cx] 43, .vec ax cx 5 (List.flatMap fRF xs) 48]) En196 Hv182 (fun hM197 => rtear_arg _ tb ax cx xs (I.len) ob (by assumption) a_oc c_oc oc ((i_oc.ev Hv182).pick [2, 3] (by kernel_rfl)) od hk hm htt hM197) ?_
     rintro _ wo198 ⟨rfl, he199⟩
     refine ⟨_, _, [.box tb [.slice ax (List.length xs) cx] 43, .vec ax cx 5 (List.flatMap fRF xs) 48, .box sb [.map (some mb)] 52, .map mb (kvs FV.v m), .grp D, .box bk1 [.int .i64 oa, .string (bstr ob), .slice a_oc (List.length oc) c_oc, .int .i64 od] 46, .vec ao18 cp19 1 (bys oc) 5], rfl, he199, by kernel_rfl, fun ac201 En202 Hv203 => ?_⟩
     refine d_e [0,1,5,6,7,8,9,22] [] En202 fun ac204 En205 => ?_
     refine block_normal ?_
     exact ⟨rfl, ⟨m, xs, D, ax, cx, (1 : Int), En205.sub (by kernel_rfl), Hv203.pick [2, 3, 0, 1, 4, 5, 6] (by kernel_rfl) (by decide), I⟩⟩
    ·
     refine f_o ?_
     obtain ⟨nm1, aB, cB, lB, t1, aN, cN, lN, n1, hx⟩ := made_el ob xs
     obtain ⟨a0, n0, c0, b0, m0, d0, t0, k0, ho⟩ := rec_el m ob
     refine c_l [0,1] (M := [.box sb [.map (some mb)] 52, .map mb (kvs FV.v m)]) En115 Hv25 (fun hM208 => tear_okX _ sb mb m ob (by assumption) ao18 cp19 oc (bys_in Hv25.heap (k := 6) rfl [0, 1] (by kernel_rfl) rfl (by first | omega | (simp; done) | (simp; omega))) od k hk1 hk ((I.may (List.length oc)).trans hm) a0 n0 c0 b0 m0 d0 t0 k0 ho (I.torn.trans htt) hM208) ?_
     rintro _ wo209 ⟨ao206, co207, rfl, he210⟩
     refine ⟨_, _, [.box sb [.map (some mb)] 52, .map mb (kvs FV.v (kvPut ob ⟨a0, n0, c0, ao206, List.length oc, co207, true, k⟩ m)), .vec ao206 co207 1 (bys oc) 5, .box tb [.slice ax (List.length xs) cx] 43, .vec ax cx 5 (List.flatMap fRF xs) 48, .grp D, .box bk1 [.int .i64 oa, .string (bstr ob), .slice a_oc (List.length oc) c_oc, .int .i64 od] 46, .vec ao18 cp19 1 (bys oc) 5], rfl, he210, by kernel_rfl, fun ac212 En213 Hv214 => ?_⟩
     have Hv215 : Ev w [.box sb [.map (some mb)] 52, .map mb (kvs FV.v m), .box tb [.slice ax (List.length xs) cx] 43, .vec ax cx 5 (List.flatMap fRF xs) 48, .grp D] wo209 [.box sb [.map (some mb)] 52, .map mb (kvs FV.v (kvPut ob ⟨a0, n0, c0, ao206, List.length oc, co207, true, k⟩ m)), .box tb [.slice ax (List.length xs) cx] 43, .vec ax cx 5 (List.flatMap fRF xs) 48, .box bk1 [.int .i64 oa, .string (bstr ob), .slice a_oc (List.length oc) c_oc, .int .i64 od] 46, .vec ao18 cp19 1 (bys oc) 5, .grp (D ++ [inn ao206 co207 oc])] := Ev.group (M := [.box sb [.map (some mb)] 52, .map mb (kvs FV.v (kvPut ob ⟨a0, n0, c0, ao206, List.length oc, co207, true, k⟩ m)), .box tb [.slice ax (List.length xs) cx] 43, .vec ax cx 5 (List.flatMap fRF xs) 48, .box bk1 [.int .i64 oa, .string (bstr ob), .slice a_oc (List.length oc) c_oc, .int .i64 od] 46, .vec ao18 cp19 1 (bys oc) 5]) Hv214 [0,1,3,4,6,7] [5,2] (by kernel_rfl) rfl (by decide)
     refine d_e [0,1,5,6,7,8,9,22] [] En213 fun ac216 En217 => ?_
     refine then_normal ?_
     refine region_from ?_
     refine d_k [0,1,5,6,7,8,9,22,45,46] [] 2 En217 fun ac218 En219 => ?_
     refine f_o ?_
     refine m_l 4 En219 Hv215 fun ac220 En221 => ?_
     refine d_k [0,1,5,6,7,8,9,22,45,47,48] [] 4 En221 fun ac222 En223 => ?_
     refine f_o ?_
     refine m_l 4 En223 Hv215 fun ac224 En225 => ?_
     refine d_k [0,1,5,6,7,8,9,22,45,47,49,50] [] 6 En225 fun ac226 En227 => ?_
     refine f_o ?_
     refine m_l 4 En227 Hv215 fun ac228 En229 => ?_
     refine f_o ?_
     refine c_l [2,3] (M := [.box tb [.slice ax (List.length xs) cx] 43, .vec ax cx 5 (List.flatMap fRF xs) 48]) En229 Hv215 (fun hM234 => rtear_okX _ tb ax cx xs (I.len) ob (by assumption) a_oc c_oc oc ((i_oc.ev Hv215).pick [2, 3] (by kernel_rfl)) od k hk1 hk hm htt nm1 aB cB lB t1 aN cN lN n1 hx hM234) ?_
     rintro _ wo235 ⟨ay230, cy231, ao232, co233, rfl, he236⟩
     refine ⟨_, _, [.box tb [.slice ay230 (List.length (List.set (madeX ob xs) (plc ob xs) (nm1, ⟨aB, cB, lB⟩, true, ⟨ao232, co233, oc⟩, (k : Int), ()))) cy231] 43, .vec ay230 cy231 5 (List.flatMap fRF (List.set (madeX ob xs) (plc ob xs) (nm1, ⟨aB, cB, lB⟩, true, ⟨ao232, co233, oc⟩, (k : Int), ()))) 48, .vec ao232 co233 1 (bys oc) 5, .box sb [.map (some mb)] 52, .map mb (kvs FV.v (kvPut ob ⟨a0, n0, c0, ao206, List.length oc, co207, true, k⟩ m)), .box bk1 [.int .i64 oa, .string (bstr ob), .slice a_oc (List.length oc) c_oc, .int .i64 od] 46, .vec ao18 cp19 1 (bys oc) 5, .grp (D ++ [inn ao206 co207 oc])], rfl, he236, by kernel_rfl, fun ac238 En239 Hv240 => ?_⟩
     have Hv241 : Ev w [.box sb [.map (some mb)] 52, .map mb (kvs FV.v m), .box tb [.slice ax (List.length xs) cx] 43, .vec ax cx 5 (List.flatMap fRF xs) 48, .grp D] wo235 [.box tb [.slice ay230 (List.length (List.set (madeX ob xs) (plc ob xs) (nm1, ⟨aB, cB, lB⟩, true, ⟨ao232, co233, oc⟩, (k : Int), ()))) cy231] 43, .vec ay230 cy231 5 (List.flatMap fRF (List.set (madeX ob xs) (plc ob xs) (nm1, ⟨aB, cB, lB⟩, true, ⟨ao232, co233, oc⟩, (k : Int), ()))) 48, .box sb [.map (some mb)] 52, .map mb (kvs FV.v (kvPut ob ⟨a0, n0, c0, ao206, List.length oc, co207, true, k⟩ m)), .box bk1 [.int .i64 oa, .string (bstr ob), .slice a_oc (List.length oc) c_oc, .int .i64 od] 46, .vec ao18 cp19 1 (bys oc) 5, .grp ((D ++ [inn ao206 co207 oc]) ++ [inn ao232 co233 oc])] := Ev.group (M := [.box tb [.slice ay230 (List.length (List.set (madeX ob xs) (plc ob xs) (nm1, ⟨aB, cB, lB⟩, true, ⟨ao232, co233, oc⟩, (k : Int), ()))) cy231] 43, .vec ay230 cy231 5 (List.flatMap fRF (List.set (madeX ob xs) (plc ob xs) (nm1, ⟨aB, cB, lB⟩, true, ⟨ao232, co233, oc⟩, (k : Int), ()))) 48, .box sb [.map (some mb)] 52, .map mb (kvs FV.v (kvPut ob ⟨a0, n0, c0, ao206, List.length oc, co207, true, k⟩ m)), .box bk1 [.int .i64 oa, .string (bstr ob), .slice a_oc (List.length oc) c_oc, .int .i64 od] 46, .vec ao18 cp19 1 (bys oc) 5]) Hv240 [0,1,3,4,5,6] [7,2] (by kernel_rfl) rfl (by decide)
     refine d_e [0,1,5,6,7,8,9,22] [] En239 fun ac242 En243 => ?_
     refine block_normal ?_
     exact ⟨rfl, ⟨(kvPut ob ⟨a0, n0, c0, ao206, List.length oc, co207, true, k⟩ m), (List.set (madeX ob xs) (plc ob xs) (nm1, ⟨aB, cB, lB⟩, true, ⟨ao232, co233, oc⟩, (k : Int), ())), ((D ++ [inn ao206 co207 oc]) ++ [inn ao232 co233 oc]), ay230, cy231, (0 : Int), En243.sub (by kernel_rfl), Hv241.pick [2, 3, 0, 1, 6, 4, 5] (by kernel_rfl) (by decide), (I.tear hm hk hx ho _ _ _ _)⟩⟩
   ·
    refine wp_seq ?_
    refine d_r [0,1,5,6,7,8,9,22,53] [] En106 fun ac244 En245 => ?_
    refine then_normal ?_
    refine c_e oa (2 : Int) En245 (fun hc246 => ?_) (fun hc246 => ?_)
    ·
     refine wp_seq ?_
     refine region_from ?_
     refine d_k [0,1,5,6,7,8,9,22,55,56] [] 2 En245 fun ac247 En248 => ?_
     refine f_o ?_
     refine m_l 5 En248 Hv25 fun ac249 En250 => ?_
     rcases settle_ways (hitX ob xs) (tornX ob xs) with hh | ⟨hh, htt⟩ | ⟨hh, htt⟩
     ·
      refine f_o ?_
      refine c_l [0,1] (M := [.box sb [.map (some mb)] 52, .map mb (kvs FV.v m)]) En250 Hv25 (fun hM251 => settle_none _ sb mb m ob (by assumption) (I.isS.trans hh) hM251) ?_
      rintro _ wo252 ⟨rfl, he253⟩
      refine ⟨_, _, [.box sb [.map (some mb)] 52, .map mb (kvs FV.v m), .box tb [.slice ax (List.length xs) cx] 43, .vec ax cx 5 (List.flatMap fRF xs) 48, .grp D, .box bk1 [.int .i64 oa, .string (bstr ob), .slice a_oc (List.length oc) c_oc, .int .i64 od] 46, .vec ao18 cp19 1 (bys oc) 5], rfl, he253, by kernel_rfl, fun ac255 En256 Hv257 => ?_⟩
      refine d_e [0,1,5,6,7,8,9,22] [] En256 fun ac258 En259 => ?_
      refine then_normal ?_
      refine region_from ?_
      refine d_k [0,1,5,6,7,8,9,22,59,60] [] 2 En259 fun ac260 En261 => ?_
      refine f_o ?_
      refine m_l 5 En261 Hv257 fun ac262 En263 => ?_
      refine f_o ?_
      refine c_l [2,3] (M := [.box tb [.slice ax (List.length xs) cx] 43, .vec ax cx 5 (List.flatMap fRF xs) 48]) En263 Hv257 (fun hM264 => rsettle_none _ tb ax cx xs (I.len) ob (by assumption) hh hM264) ?_
      rintro _ wo265 ⟨rfl, he266⟩
      refine ⟨_, _, [.box tb [.slice ax (List.length xs) cx] 43, .vec ax cx 5 (List.flatMap fRF xs) 48, .box sb [.map (some mb)] 52, .map mb (kvs FV.v m), .grp D, .box bk1 [.int .i64 oa, .string (bstr ob), .slice a_oc (List.length oc) c_oc, .int .i64 od] 46, .vec ao18 cp19 1 (bys oc) 5], rfl, he266, by kernel_rfl, fun ac268 En269 Hv270 => ?_⟩
      refine d_e [0,1,5,6,7,8,9,22] [] En269 fun ac271 En272 => ?_
      refine block_normal ?_
      exact ⟨rfl, ⟨m, xs, D, ax, cx, (22 : Int), En272.sub (by kernel_rfl), Hv270.pick [2, 3, 0, 1, 4, 5, 6] (by kernel_rfl) (by decide), I⟩⟩
     ·
      refine f_o ?_
      refine c_l [0,1] (M := [.box sb [.map (some mb)] 52, .map mb (kvs FV.v m)]) En250 Hv25 (fun hM273 => settle_notX _ sb mb m ob (by assumption) (I.isS.trans hh) (I.torn.trans htt) hM273) ?_
      rintro _ wo274 ⟨rfl, he275⟩
      refine ⟨_, _, [.box sb [.map (some mb)] 52, .map mb (kvs FV.v m), .box tb [.slice ax (List.length xs) cx] 43, .vec ax cx 5 (List.flatMap fRF xs) 48, .grp D, .box bk1 [.int .i64 oa, .string (bstr ob), .slice a_oc (List.length oc) c_oc, .int .i64 od] 46, .vec ao18 cp19 1 (bys oc) 5], rfl, he275, by kernel_rfl, fun ac277 En278 Hv279 => ?_⟩
      refine d_e [0,1,5,6,7,8,9,22] [] En278 fun ac280 En281 => ?_
      refine then_normal ?_
      refine region_from ?_
      refine d_k [0,1,5,6,7,8,9,22,59,60] [] 2 En281 fun ac282 En283 => ?_
      refine f_o ?_
      refine m_l 5 En283 Hv279 fun ac284 En285 => ?_
      refine f_o ?_
      refine c_l [2,3] (M := [.box tb [.slice ax (List.length xs) cx] 43, .vec ax cx 5 (List.flatMap fRF xs) 48]) En285 Hv279 (fun hM286 => rsettle_notX _ tb ax cx xs (I.len) ob (by assumption) hh htt hM286) ?_
      rintro _ wo287 ⟨rfl, he288⟩
      refine ⟨_, _, [.box tb [.slice ax (List.length xs) cx] 43, .vec ax cx 5 (List.flatMap fRF xs) 48, .box sb [.map (some mb)] 52, .map mb (kvs FV.v m), .grp D, .box bk1 [.int .i64 oa, .string (bstr ob), .slice a_oc (List.length oc) c_oc, .int .i64 od] 46, .vec ao18 cp19 1 (bys oc) 5], rfl, he288, by kernel_rfl, fun ac290 En291 Hv292 => ?_⟩
      refine d_e [0,1,5,6,7,8,9,22] [] En291 fun ac293 En294 => ?_
      refine block_normal ?_
      exact ⟨rfl, ⟨m, xs, D, ax, cx, (25 : Int), En294.sub (by kernel_rfl), Hv292.pick [2, 3, 0, 1, 4, 5, 6] (by kernel_rfl) (by decide), I⟩⟩
     ·
      refine f_o ?_
      obtain ⟨nm1, aB, cB, lB, t1, aN, cN, lN, n1, hx⟩ := hit_el hh
      obtain ⟨a0, n0, c0, b0, m0, d0, t0, k0, ho⟩ := rec_el m ob
      refine c_l [0,1] (M := [.box sb [.map (some mb)] 52, .map mb (kvs FV.v m)]) En250 Hv25 (fun hM295 => settle_okX _ sb mb m ob (by assumption) (I.isS.trans hh) a0 n0 c0 b0 m0 d0 t0 k0 ho (I.torn.trans htt) hM295) ?_
      rintro _ wo296 ⟨rfl, he297⟩
      refine ⟨_, _, [.box sb [.map (some mb)] 52, .map mb (kvs FV.v (kvPut ob ⟨b0, m0, d0, none, 0, 0, false, 0⟩ m)), .box tb [.slice ax (List.length xs) cx] 43, .vec ax cx 5 (List.flatMap fRF xs) 48, .grp D, .box bk1 [.int .i64 oa, .string (bstr ob), .slice a_oc (List.length oc) c_oc, .int .i64 od] 46, .vec ao18 cp19 1 (bys oc) 5], rfl, he297, by kernel_rfl, fun ac299 En300 Hv301 => ?_⟩
      refine d_e [0,1,5,6,7,8,9,22] [] En300 fun ac302 En303 => ?_
      refine then_normal ?_
      refine region_from ?_
      refine d_k [0,1,5,6,7,8,9,22,59,60] [] 2 En303 fun ac304 En305 => ?_
      refine f_o ?_
      refine m_l 5 En305 Hv301 fun ac306 En307 => ?_
      refine f_o ?_
      refine c_l [2,3] (M := [.box tb [.slice ax (List.length xs) cx] 43, .vec ax cx 5 (List.flatMap fRF xs) 48]) En307 Hv301 (fun hM310 => rsettle_okX _ tb ax cx xs (I.len) ob (by assumption) hh nm1 aB cB lB t1 aN cN lN n1 hx htt hM310) ?_
      rintro _ wo311 ⟨ay308, cy309, rfl, he312⟩
      refine ⟨_, _, [.box tb [.slice ay308 (List.length (List.set xs (plc ob xs) (ob, ⟨aN, cN, lN⟩, false, ⟨none, 0, []⟩, 0, ()))) cy309] 43, .vec ay308 cy309 5 (List.flatMap fRF (List.set xs (plc ob xs) (ob, ⟨aN, cN, lN⟩, false, ⟨none, 0, []⟩, 0, ()))) 48, .box sb [.map (some mb)] 52, .map mb (kvs FV.v (kvPut ob ⟨b0, m0, d0, none, 0, 0, false, 0⟩ m)), .grp D, .box bk1 [.int .i64 oa, .string (bstr ob), .slice a_oc (List.length oc) c_oc, .int .i64 od] 46, .vec ao18 cp19 1 (bys oc) 5], rfl, he312, by kernel_rfl, fun ac314 En315 Hv316 => ?_⟩
      refine d_e [0,1,5,6,7,8,9,22] [] En315 fun ac317 En318 => ?_
      refine block_normal ?_
      exact ⟨rfl, ⟨(kvPut ob ⟨b0, m0, d0, none, 0, 0, false, 0⟩ m), (List.set xs (plc ob xs) (ob, ⟨aN, cN, lN⟩, false, ⟨none, 0, []⟩, 0, ())), D, ay308, cy309, (0 : Int), En318.sub (by kernel_rfl), Hv316.pick [2, 3, 0, 1, 4, 5, 6] (by kernel_rfl) (by decide), (I.settle hh hx ho)⟩⟩
    ·
     refine wp_seq ?_
     refine d_r [0,1,5,6,7,8,9,22,63] [] En245 fun ac319 En320 => ?_
     refine then_normal ?_
     refine c_e oa (3 : Int) En320 (fun hc321 => ?_) (fun hc321 => ?_)
     ·
      refine wp_seq ?_
      refine region_from ?_
      refine d_k [0,1,5,6,7,8,9,22,65,66] [] 2 En320 fun ac322 En323 => ?_
      refine f_o ?_
      refine m_l 5 En323 Hv25 fun ac324 En325 => ?_
      rcases Bool.eq_false_or_eq_true (hitX ob xs) with hh | hh
      ·
       refine f_o ?_
       refine c_l [0,1] (M := [.box sb [.map (some mb)] 52, .map mb (kvs FV.v m)]) En325 Hv25 (fun hM326 => rem_ok _ sb mb m ob (by assumption) (I.isS.trans hh) hM326) ?_
       rintro _ wo327 ⟨rfl, he328⟩
       refine ⟨_, _, [.box sb [.map (some mb)] 52, .map mb (kvs FV.v (kvCut ob m)), .box tb [.slice ax (List.length xs) cx] 43, .vec ax cx 5 (List.flatMap fRF xs) 48, .grp D, .box bk1 [.int .i64 oa, .string (bstr ob), .slice a_oc (List.length oc) c_oc, .int .i64 od] 46, .vec ao18 cp19 1 (bys oc) 5], rfl, he328, by kernel_rfl, fun ac330 En331 Hv332 => ?_⟩
       refine d_e [0,1,5,6,7,8,9,22] [] En331 fun ac333 En334 => ?_
       refine then_normal ?_
       refine region_from ?_
       refine d_k [0,1,5,6,7,8,9,22,69,70] [] 2 En334 fun ac335 En336 => ?_
       refine f_o ?_
       refine m_l 5 En336 Hv332 fun ac337 En338 => ?_
       refine f_o ?_
       refine c_l [2,3] (M := [.box tb [.slice ax (List.length xs) cx] 43, .vec ax cx 5 (List.flatMap fRF xs) 48]) En338 Hv332 (fun hM341 => rrem_ok _ tb ax cx xs (I.len) ob (by assumption) hh hM341) ?_
       rintro _ wo342 ⟨ay339, cy340, rfl, he343⟩
       refine ⟨_, _, [.box tb [.slice ay339 (List.length (cutX ob xs)) cy340] 43, .vec ay339 cy340 5 (List.flatMap fRF (cutX ob xs)) 48, .box sb [.map (some mb)] 52, .map mb (kvs FV.v (kvCut ob m)), .grp D, .box bk1 [.int .i64 oa, .string (bstr ob), .slice a_oc (List.length oc) c_oc, .int .i64 od] 46, .vec ao18 cp19 1 (bys oc) 5], rfl, he343, by kernel_rfl, fun ac345 En346 Hv347 => ?_⟩
       refine d_e [0,1,5,6,7,8,9,22] [] En346 fun ac348 En349 => ?_
       refine block_normal ?_
       exact ⟨rfl, ⟨(kvCut ob m), (cutX ob xs), D, ay339, cy340, (0 : Int), En349.sub (by kernel_rfl), Hv347.pick [2, 3, 0, 1, 4, 5, 6] (by kernel_rfl) (by decide), (I.cut hh)⟩⟩
      ·
       refine f_o ?_
       refine c_l [0,1] (M := [.box sb [.map (some mb)] 52, .map mb (kvs FV.v m)]) En325 Hv25 (fun hM350 => rem_none _ sb mb m ob (by assumption) (I.isS.trans hh) hM350) ?_
       rintro _ wo351 ⟨rfl, he352⟩
       refine ⟨_, _, [.box sb [.map (some mb)] 52, .map mb (kvs FV.v m), .box tb [.slice ax (List.length xs) cx] 43, .vec ax cx 5 (List.flatMap fRF xs) 48, .grp D, .box bk1 [.int .i64 oa, .string (bstr ob), .slice a_oc (List.length oc) c_oc, .int .i64 od] 46, .vec ao18 cp19 1 (bys oc) 5], rfl, he352, by kernel_rfl, fun ac354 En355 Hv356 => ?_⟩
       refine d_e [0,1,5,6,7,8,9,22] [] En355 fun ac357 En358 => ?_
       refine then_normal ?_
       refine region_from ?_
       refine d_k [0,1,5,6,7,8,9,22,69,70] [] 2 En358 fun ac359 En360 => ?_
       refine f_o ?_
       refine m_l 5 En360 Hv356 fun ac361 En362 => ?_
       refine f_o ?_
       refine c_l [2,3] (M := [.box tb [.slice ax (List.length xs) cx] 43, .vec ax cx 5 (List.flatMap fRF xs) 48]) En362 Hv356 (fun hM363 => rrem_none _ tb ax cx xs (I.len) ob (by assumption) hh hM363) ?_
       rintro _ wo364 ⟨rfl, he365⟩
       refine ⟨_, _, [.box tb [.slice ax (List.length xs) cx] 43, .vec ax cx 5 (List.flatMap fRF xs) 48, .box sb [.map (some mb)] 52, .map mb (kvs FV.v m), .grp D, .box bk1 [.int .i64 oa, .string (bstr ob), .slice a_oc (List.length oc) c_oc, .int .i64 od] 46, .vec ao18 cp19 1 (bys oc) 5], rfl, he365, by kernel_rfl, fun ac367 En368 Hv369 => ?_⟩
       refine d_e [0,1,5,6,7,8,9,22] [] En368 fun ac370 En371 => ?_
       refine block_normal ?_
       exact ⟨rfl, ⟨m, xs, D, ax, cx, (22 : Int), En371.sub (by kernel_rfl), Hv369.pick [2, 3, 0, 1, 4, 5, 6] (by kernel_rfl) (by decide), I⟩⟩
     ·
      refine wp_skip ?_
      refine block_normal ?_
      exact ⟨rfl, ⟨m, xs, D, ax, cx, (0 : Int), En320.sub (by kernel_rfl), Hv25.pick [0, 1, 2, 3, 4, 5, 6] (by kernel_rfl) (by decide), I⟩⟩
 ·
  rintro ac372 wo373 ⟨m2, xs2, D2, ay, cy, c9, En374, Hv375, I2⟩
  refine then_normal ?_
  refine wp_seq ?_
  refine wp_seq ?_
  refine d_r [0,1,5,6,7,8,9,10,22] [] En374 fun ac376 En377 => ?_
  refine then_normal ?_
  refine wp_block ?_
  refine loop_m (fun ms378 ac wo => ∃ (i1 : Nat) (lx : List UInt8), ms378 = (List.length oc - i1 : Nat) ∧ Env ac 138 [(0, pt sb), (1, pt tb), (5, pt bk1), (6, .bool false), (7, .slice ao18 (List.length oc) cp19), (8, .int .i64 c9), (9, .int .i64 c9), (10, ni i1), (22, .int .i64 oa)] ∧ Ev w [.box sb [.map (some mb)] 52, .map mb (kvs FV.v m), .box tb [.slice ax (List.length xs) cx] 43, .vec ax cx 5 (List.flatMap fRF xs) 48, .grp D] wo [.vec ao18 cp19 1 (bys lx) 5, .box sb [.map (some mb)] 52, .map mb (kvs FV.v m2), .box tb [.slice ay (List.length xs2) cy] 43, .vec ay cy 5 (List.flatMap fRF xs2) 48, .grp D2, .box bk1 [.int .i64 oa, .string (bstr ob), .slice a_oc (List.length oc) c_oc, .int .i64 od] 46] ∧ (List.length lx = List.length oc)) ⟨_, 0, oc, rfl, En377.sub (by kernel_rfl), Hv375.pick [6, 0, 1, 2, 3, 4, 5] (by kernel_rfl) (by decide), rfl⟩ ?_
  rintro mm384 ac380 wo381 ⟨i1, lx, rfl, En382, Hv383, hllx⟩
  refine wp_seq ?_
  refine wp_seq ?_
  refine d_r [0,1,5,6,7,8,9,10,22,76] [] En382 fun ac385 En386 => ?_
  refine then_normal ?_
  refine c_d (((i1 : Nat) : Int) < ((List.length oc : Nat) : Int)) En386 (fun hc387 => ?_) (fun hc387 => ?_)
  ·
   refine wp_skip ?_
   refine then_normal ?_
   refine wp_seq ?_
   refine wp_block ?_
   have hb390 : i1 < List.length oc := (by omega)
   obtain ⟨adr388, had389⟩ := some_of (fun e => by have h := (bys_vnz Hv383.heap (k := 0) rfl) e; first | omega | (rw [List.length_take] at h; omega) | (simp at h; omega)) hb390
   refine region_from ?_
   refine d_k [0,1,5,6,7,8,9,10,22,79,80] [] 2 En386 fun ac391 En392 => ?_
   refine f_o ?_
   refine q_v (x := Instr.indexAt 22 (.slice ao18 (List.length oc) cp19) (ni i1)) (v := .pointer (some (Addr.add adr388 i1))) En392 (Go.Dbr.run_indexsl (e := 5) (sz := 1) (j := i1) (jo := i1) had389 (by kernel_rfl) (by kernel_rfl) (by omega) hb390 (Nat.mul_one _) _) fun ac393 En394 => ?_
   refine f_o ?_
   have hb395 : i1 < List.length lx := by omega
   refine op_loadel (d := some 82) (t := 5) (ad := adr388) (ao := ao18) (xs := bys lx) (j := i1) (v := .int .u8 ((UInt8.toNat (List.getD lx i1 0) : Nat) : Int)) En394 (by kernel_rfl) (Hv383.heap.reads (k := 0) rfl) had389 (bys_getD hb395) (by kernel_rfl) ?_
   intro ac396 En397
   have hb400 : i1 < List.length oc := (by omega)
   obtain ⟨adr398, had399⟩ := some_of (fun e => by have h := (bys_vnz Hv383.heap (k := 0) rfl) e; first | omega | (rw [List.length_take] at h; omega) | (simp at h; omega)) hb400
   refine d_k [0,1,5,6,7,8,9,10,22,79,80,83] [(4, g_i .u8 (Go.Dbr.u8_add (x := List.getD lx i1 0) (y := (1 : UInt8)) rfl rfl))] 5 En397 fun ac401 En402 => ?_
   refine f_o ?_
   refine q_v (x := Instr.indexAt 22 (.slice ao18 (List.length oc) cp19) (ni i1)) (v := .pointer (some (Addr.add adr398 i1))) En402 (Go.Dbr.run_indexsl (e := 5) (sz := 1) (j := i1) (jo := i1) had399 (by kernel_rfl) (by kernel_rfl) (by omega) hb400 (Nat.mul_one _) _) fun ac403 En404 => ?_
   refine f_o ?_
   refine op_storeel (d := none) (t := 5) (ad := adr398) (ao := ao18) (k := 0) (cap := cp19) (sz := 1) (j := i1) (xs := bys lx) (v := bv ((List.getD lx i1 0) + (1 : UInt8))) En404 (by kernel_rfl) Hv383 rfl had399 (by rw [bys_length]; first | omega | (simp; done) | (simp; omega)) (by kernel_rfl) rfl ?_
   intro ac405 wo406  En407 Hv408
   rw [bys_set] at Hv408
   refine f_e ?_
   refine block_normal ?_
   refine then_normal ?_
   refine d_r [0,1,5,6,7,8,9,10,22] [(1, g_n (w_a i1 1))] En407 fun ac409 En410 => ?_
   refine then_normal ?_
   refine ⟨_, ⟨i1 + 1, (List.set lx i1 ((List.getD lx i1 0) + (1 : UInt8))), rfl, En410.sub (by kernel_rfl), Hv408.pick [0, 1, 2, 3, 4, 5, 6] (by kernel_rfl) (by decide), (List.length_set.trans hllx)⟩, ?_⟩
   omega
  ·
   refine wp_exit ?_
   refine then_exit ?_
   refine then_exit ?_
   refine block_exit ?_
   refine then_normal ?_
   refine wp_seq ?_
   refine region_from ?_
   refine d_k [0,1,5,6,7,8,9,10,22,86,87] [] 2 En386 fun ac411 En412 => ?_
   refine f_o ?_
   refine m_l 6 En412 Hv383 fun ac413 En414 => ?_
   rcases Bool.eq_false_or_eq_true (hitX ob xs2) with hh | hh
   ·
    refine f_o ?_
    obtain ⟨nm1, aB, cB, lB, t1, aN, cN, lN, n1, hx⟩ := hit_el hh
    obtain ⟨a0, n0, c0, b0, m0, d0, t0, k0, ho⟩ := rec_el m2 ob
    obtain ⟨g1, g2, g3⟩ := I2.recX hh hx
    rw [ho] at g3
    have e1 : n0 = List.length lB := g3.n
    have e2 : m0 = List.length lN := g3.m
    have e3 : ((k0 : Nat) : Int) = n1 := g3.k
    have hk9 : k0 ≤ List.length lN := by have h : n1 ≤ (List.length lN : Int) := g2.k1; omega
    have hA9 : List.length lB ≤ 65536 := g2.la
    have hB9 : List.length lN ≤ 65536 := g2.lb
    rw [e1, e2] at ho
    refine c_l [1,2] (M := [.box sb [.map (some mb)] 52, .map mb (kvs FV.v m2)]) En414 Hv383 (fun hM417 => read_go _ sb mb m2 ob (by assumption) (I2.isS.trans hh) lB lN a0 c0 b0 d0 t0 k0 ho (Hv383.heap.innB (k := 5) (D := D2) (T := 5) rfl g3.a [1, 2] (by kernel_rfl) rfl (by omega)) (Hv383.heap.innB (k := 5) (D := D2) (T := 5) rfl g3.b [1, 2] (by kernel_rfl) rfl (by omega)) hA9 hB9 hk9 hM417) ?_
    rintro _ wo418 ⟨ao415, co416, rfl, he419⟩
    refine ⟨_, _, [.box sb [.map (some mb)] 52, .map mb (kvs FV.v m2), .vec ao415 co416 1 (bys (rdL lB lN k0)) 5, .vec ao18 cp19 1 (bys lx) 5, .box tb [.slice ay (List.length xs2) cy] 43, .vec ay cy 5 (List.flatMap fRF xs2) 48, .grp D2, .box bk1 [.int .i64 oa, .string (bstr ob), .slice a_oc (List.length oc) c_oc, .int .i64 od] 46], rfl, he419, by kernel_rfl, fun ac421 En422 Hv423 => ?_⟩
    have hrl : List.length (rdL lB lN k0) ≤ 131072 := by simp only [rdL, List.length_append, List.length_take, List.length_drop]; omega
    refine d_e [0,1,5,6,7,8,9,10,11,12,22] [] En422 fun ac424 En425 => ?_
    refine then_normal ?_
    refine wp_seq ?_
    refine region_from ?_
    refine d_k [0,1,5,6,7,8,9,10,11,12,22,93,94] [] 2 En425 fun ac426 En427 => ?_
    refine f_o ?_
    refine m_l 7 En427 Hv423 fun ac428 En429 => ?_
    refine f_o ?_
    refine c_l [4,5] (M := [.box tb [.slice ay (List.length xs2) cy] 43, .vec ay cy 5 (List.flatMap fRF xs2) 48]) En429 Hv423 (fun hM432 => rread_go _ tb ay cy xs2 I2.len ob (by assumption) hh nm1 aB cB lB t1 aN cN lN k0 (by rw [e3]; exact hx) (Hv423.heap.innB (k := 6) (D := D2) (T := 5) rfl g2.a [4, 5] (by kernel_rfl) rfl (by omega)) (Hv423.heap.innB (k := 6) (D := D2) (T := 5) rfl g2.b [4, 5] (by kernel_rfl) rfl (by omega)) hA9 hB9 hk9 hM432) ?_
    rintro _ wo433 ⟨ao430, co431, rfl, he434⟩
    refine ⟨_, _, [.box tb [.slice ay (List.length xs2) cy] 43, .vec ay cy 5 (List.flatMap fRF xs2) 48, .vec ao430 co431 1 (bys (rdL lB lN k0)) 5, .box sb [.map (some mb)] 52, .map mb (kvs FV.v m2), .vec ao415 co416 1 (bys (rdL lB lN k0)) 5, .vec ao18 cp19 1 (bys lx) 5, .grp D2, .box bk1 [.int .i64 oa, .string (bstr ob), .slice a_oc (List.length oc) c_oc, .int .i64 od] 46], rfl, he434, by kernel_rfl, fun ac436 En437 Hv438 => ?_⟩
    refine d_e [0,1,5,6,7,8,9,10,11,12,13,14,22] [] En437 fun ac439 En440 => ?_
    refine then_normal ?_
    refine wp_seq ?_
    refine region_from ?_
    refine d_k [0,1,5,6,7,8,9,10,11,12,13,14,22,99] [] 1 En440 fun ac441 En442 => ?_
    refine f_o ?_
    refine op_str (d := some 100) (src := 22) (dst := 9) (e := 5) (ao := ao415) (cap := co416) (p := List.length (rdL lB lN k0)) (bs := rdL lB lN k0) En442 (by kernel_rfl) rfl (by kernel_rfl) (by kernel_rfl) (by kernel_rfl) (Hv438.heap.reads (k := 5) rfl) (bys_vnz Hv438.heap (k := 5) rfl) ?_
    intro ac443 En444
    refine d_k [0,1,5,6,7,8,9,10,11,12,14,22,100,101] [] 3 En444 fun ac445 En446 => ?_
    refine f_o ?_
    refine op_str (d := some 102) (src := 22) (dst := 9) (e := 5) (ao := ao430) (cap := co431) (p := List.length (rdL lB lN k0)) (bs := rdL lB lN k0) En446 (by kernel_rfl) rfl (by kernel_rfl) (by kernel_rfl) (by kernel_rfl) (Hv438.heap.reads (k := 2) rfl) (bys_vnz Hv438.heap (k := 2) rfl) ?_
    intro ac447 En448
    refine d_e [0,1,5,6,7,8,9,10,11,15,22] [(4, g_v (show (.bool (ByteArray.toList (bstr (rdL lB lN k0)) == ByteArray.toList (bstr (rdL lB lN k0))) : Value) = .bool true by rw [Go.Dbr.bstr_eq (rdL lB lN k0) (rdL lB lN k0), show ((rdL lB lN k0) == (rdL lB lN k0)) = true from (beq_self_eq_true _)] <;> rfl))] En448 fun ac449 En450 => ?_
    refine then_normal ?_
    refine wp_seq ?_
    refine wp_seq ?_
    refine d_r [0,1,5,6,7,8,9,10,11,15,16,22] [] En450 fun ac451 En452 => ?_
    refine then_normal ?_
    refine wp_block ?_
    refine loop_m (fun ms453 ac wo => ∃ (i2 : Nat) (ly : List UInt8), ms453 = (List.length (rdL lB lN k0) - i2 : Nat) ∧ Env ac 138 [(0, pt sb), (1, pt tb), (5, pt bk1), (6, .bool false), (7, .slice ao18 (List.length oc) cp19), (8, .int .i64 c9), (9, .int .i64 c9), (10, ni i1), (11, .slice ao415 (List.length (rdL lB lN k0)) co416), (15, .bool true), (16, ni i2), (22, .int .i64 oa)] ∧ Ev w [.box sb [.map (some mb)] 52, .map mb (kvs FV.v m), .box tb [.slice ax (List.length xs) cx] 43, .vec ax cx 5 (List.flatMap fRF xs) 48, .grp D] wo [.vec ao415 co416 1 (bys ly) 5, .box tb [.slice ay (List.length xs2) cy] 43, .vec ay cy 5 (List.flatMap fRF xs2) 48, .vec ao430 co431 1 (bys (rdL lB lN k0)) 5, .box sb [.map (some mb)] 52, .map mb (kvs FV.v m2), .vec ao18 cp19 1 (bys lx) 5, .grp D2, .box bk1 [.int .i64 oa, .string (bstr ob), .slice a_oc (List.length oc) c_oc, .int .i64 od] 46] ∧ (List.length ly = List.length (rdL lB lN k0))) ⟨_, 0, (rdL lB lN k0), rfl, En452.sub (by kernel_rfl), Hv438.pick [5, 0, 1, 2, 3, 4, 6, 7, 8] (by kernel_rfl) (by decide), rfl⟩ ?_
    rintro mm459 ac455 wo456 ⟨i2, ly, rfl, En457, Hv458, hlly⟩
    refine wp_seq ?_
    refine wp_seq ?_
    refine d_r [0,1,5,6,7,8,9,10,11,15,16,22,112] [] En457 fun ac460 En461 => ?_
    refine then_normal ?_
    refine c_d (((i2 : Nat) : Int) < ((List.length (rdL lB lN k0) : Nat) : Int)) En461 (fun hc462 => ?_) (fun hc462 => ?_)
    ·
     refine wp_skip ?_
     refine then_normal ?_
     refine wp_seq ?_
     refine wp_block ?_
     have hb465 : i2 < List.length (rdL lB lN k0) := (by omega)
     obtain ⟨adr463, had464⟩ := some_of (fun e => by have h := (bys_vnz Hv458.heap (k := 0) rfl) e; first | omega | (rw [List.length_take] at h; omega) | (simp at h; omega)) hb465
     refine region_from ?_
     refine d_k [0,1,5,6,7,8,9,10,11,15,16,22,115,116] [] 2 En461 fun ac466 En467 => ?_
     refine f_o ?_
     refine q_v (x := Instr.indexAt 22 (.slice ao415 (List.length (rdL lB lN k0)) co416) (ni i2)) (v := .pointer (some (Addr.add adr463 i2))) En467 (Go.Dbr.run_indexsl (e := 5) (sz := 1) (j := i2) (jo := i2) had464 (by kernel_rfl) (by kernel_rfl) (by omega) hb465 (Nat.mul_one _) _) fun ac468 En469 => ?_
     refine f_o ?_
     have hb470 : i2 < List.length ly := by omega
     refine op_loadel (d := some 118) (t := 5) (ad := adr463) (ao := ao415) (xs := bys ly) (j := i2) (v := .int .u8 ((UInt8.toNat (List.getD ly i2 0) : Nat) : Int)) En469 (by kernel_rfl) (Hv458.heap.reads (k := 0) rfl) had464 (bys_getD hb470) (by kernel_rfl) ?_
     intro ac471 En472
     have hb475 : i2 < List.length (rdL lB lN k0) := (by omega)
     obtain ⟨adr473, had474⟩ := some_of (fun e => by have h := (bys_vnz Hv458.heap (k := 0) rfl) e; first | omega | (rw [List.length_take] at h; omega) | (simp at h; omega)) hb475
     refine d_k [0,1,5,6,7,8,9,10,11,15,16,22,115,116,119] [(4, g_i .u8 (Go.Dbr.u8_add (x := List.getD ly i2 0) (y := (1 : UInt8)) rfl rfl))] 5 En472 fun ac476 En477 => ?_
     refine f_o ?_
     refine q_v (x := Instr.indexAt 22 (.slice ao415 (List.length (rdL lB lN k0)) co416) (ni i2)) (v := .pointer (some (Addr.add adr473 i2))) En477 (Go.Dbr.run_indexsl (e := 5) (sz := 1) (j := i2) (jo := i2) had474 (by kernel_rfl) (by kernel_rfl) (by omega) hb475 (Nat.mul_one _) _) fun ac478 En479 => ?_
     refine f_o ?_
     refine op_storeel (d := none) (t := 5) (ad := adr473) (ao := ao415) (k := 0) (cap := co416) (sz := 1) (j := i2) (xs := bys ly) (v := bv ((List.getD ly i2 0) + (1 : UInt8))) En479 (by kernel_rfl) Hv458 rfl had474 (by rw [bys_length]; first | omega | (simp; done) | (simp; omega)) (by kernel_rfl) rfl ?_
     intro ac480 wo481  En482 Hv483
     rw [bys_set] at Hv483
     refine f_e ?_
     refine block_normal ?_
     refine then_normal ?_
     refine d_r [0,1,5,6,7,8,9,10,11,15,16,22] [(1, g_n (w_a i2 1))] En482 fun ac484 En485 => ?_
     refine then_normal ?_
     refine ⟨_, ⟨i2 + 1, (List.set ly i2 ((List.getD ly i2 0) + (1 : UInt8))), rfl, En485.sub (by kernel_rfl), Hv483.pick [0, 1, 2, 3, 4, 5, 6, 7, 8] (by kernel_rfl) (by decide), (List.length_set.trans hlly)⟩, ?_⟩
     omega
    ·
     refine wp_exit ?_
     refine then_exit ?_
     refine then_exit ?_
     refine block_exit ?_
     refine then_normal ?_
     refine wp_seq ?_
     refine r_c (fun ac wo => Env ac 138 [(0, pt sb), (1, pt tb), (5, pt bk1), (6, .bool true), (7, .slice ao18 (List.length oc) cp19), (10, ni i1), (11, .slice ao415 (List.length (rdL lB lN k0)) co416), (16, ni i2), (22, .int .i64 oa)] ∧ Ev w [.box sb [.map (some mb)] 52, .map mb (kvs FV.v m), .box tb [.slice ax (List.length xs) cx] 43, .vec ax cx 5 (List.flatMap fRF xs) 48, .grp D] wo [.box tb [.slice ay (List.length xs2) cy] 43, .vec ay cy 5 (List.flatMap fRF xs2) 48, .box sb [.map (some mb)] 52, .map mb (kvs FV.v m2), .vec ao415 co416 1 (bys ly) 5, .vec ao18 cp19 1 (bys lx) 5, .grp D2, .box bk1 [.int .i64 oa, .string (bstr ob), .slice a_oc (List.length oc) c_oc, .int .i64 od] 46]) ?_ ?_
     ·
      refine h_s (fun wv => Ev w [.box sb [.map (some mb)] 52, .map mb (kvs FV.v m), .box tb [.slice ax (List.length xs) cx] 43, .vec ax cx 5 (List.flatMap fRF xs) 48, .grp D] wv [.box bk1 [.int .i64 oa, .string (bstr ob), .slice a_oc (List.length oc) c_oc, .int .i64 od] 46]) [] 18 ?_
      have wo486 := Hv458.trans (Ev.drew Hv458.heap)
      refine q_s [0,1,2,3,4,5,6,7,8] [(2, g_b (show (c9 == c9) = true from (beq_self_eq_true _)))] 9 En461 (wo486.pick [8] (by kernel_rfl) (by decide)) fun ac571 En572 => ?_
      refine q_l 0 9 En572 (wo486.pick [8] (by kernel_rfl) (by decide)) fun ac573 En574 => ?_
      refine q_s [11,12] [] 6 En574 (wo486.pick [8] (by kernel_rfl) (by decide)) fun ac575 En576 => ?_
      refine q_l 0 13 En576 (wo486.pick [8] (by kernel_rfl) (by decide)) fun ac577 En578 => ?_
      refine q_t 10 ?_
      refine c_l [4,5] (M := [.box sb [.map (some mb)] 52, .map mb (kvs FV.v m2)]) En578 wo486 (fun hM579 => torn_goX _ sb mb m2 ob (by assumption) (tornX ob xs2) I2.torn hM579) ?_
      rintro _ wo580 ⟨rfl, he581⟩
      refine ⟨_, _, [.box sb [.map (some mb)] 52, .map mb (kvs FV.v m2), .vec ao415 co416 1 (bys ly) 5, .box tb [.slice ay (List.length xs2) cy] 43, .vec ay cy 5 (List.flatMap fRF xs2) 48, .vec ao430 co431 1 (bys (rdL lB lN k0)) 5, .vec ao18 cp19 1 (bys lx) 5, .grp D2, .box bk1 [.int .i64 oa, .string (bstr ob), .slice a_oc (List.length oc) c_oc, .int .i64 od] 46], rfl, he581, by kernel_rfl, fun ac583 En584 Hv585 => ?_⟩
      refine ⟨fun _ => Hv585.pick [8] (by kernel_rfl) (by decide), ?_⟩
      refine q_t 14 ?_
      refine c_l [3,4] (M := [.box tb [.slice ay (List.length xs2) cy] 43, .vec ay cy 5 (List.flatMap fRF xs2) 48]) En584 Hv585 (fun hM586 => rtorn_go _ tb ay cy xs2 I2.len ob (by assumption) hM586) ?_
      rintro _ wo587 ⟨rfl, he588⟩
      refine ⟨_, _, [.box tb [.slice ay (List.length xs2) cy] 43, .vec ay cy 5 (List.flatMap fRF xs2) 48, .box sb [.map (some mb)] 52, .map mb (kvs FV.v m2), .vec ao415 co416 1 (bys ly) 5, .vec ao430 co431 1 (bys (rdL lB lN k0)) 5, .vec ao18 cp19 1 (bys lx) 5, .grp D2, .box bk1 [.int .i64 oa, .string (bstr ob), .slice a_oc (List.length oc) c_oc, .int .i64 od] 46], rfl, he588, by kernel_rfl, fun ac590 En591 Hv592 => ?_⟩
      refine ⟨fun _ => Hv592.pick [8] (by kernel_rfl) (by decide), ?_⟩
      refine q_s [15,16,17] [(15, g_b (show ((tornX ob xs2) == (tornX ob xs2)) = true from (beq_self_eq_true _)))] 0 En591 (Hv592.pick [8] (by kernel_rfl) (by decide)) fun ac593 En594 => ?_
      exact h_e ⟨En594.sub (by kernel_rfl), Hv592.pick [0, 1, 2, 3, 4, 6, 7, 8] (by kernel_rfl) (by decide)⟩
     rintro ac595 wo596 ⟨En597, Hv598⟩
     refine then_normal ?_
     refine wp_ret ?_
     refine d_ret1 (t := 6) (v := .bool true) En597 (by kernel_rfl) (by kernel_rfl) ?_
     exact ⟨m2, xs2, D2, ay, cy, rfl, Hv598.pick [2, 3, 0, 1, 6] (by kernel_rfl) (by decide), I2⟩
   ·
    refine f_o ?_
    refine c_l [1,2] (M := [.box sb [.map (some mb)] 52, .map mb (kvs FV.v m2)]) En414 Hv383 (fun hM599 => read_none _ sb mb m2 ob (by assumption) (I2.isS.trans hh) hM599) ?_
    rintro _ wo600 ⟨rfl, he601⟩
    refine ⟨_, _, [.box sb [.map (some mb)] 52, .map mb (kvs FV.v m2), .vec ao18 cp19 1 (bys lx) 5, .box tb [.slice ay (List.length xs2) cy] 43, .vec ay cy 5 (List.flatMap fRF xs2) 48, .grp D2, .box bk1 [.int .i64 oa, .string (bstr ob), .slice a_oc (List.length oc) c_oc, .int .i64 od] 46], rfl, he601, by kernel_rfl, fun ac603 En604 Hv605 => ?_⟩
    refine d_e [0,1,5,6,7,8,9,10,11,12,22] [] En604 fun ac606 En607 => ?_
    refine then_normal ?_
    refine wp_seq ?_
    refine region_from ?_
    refine d_k [0,1,5,6,7,8,9,10,11,12,22,93,94] [] 2 En607 fun ac608 En609 => ?_
    refine f_o ?_
    refine m_l 6 En609 Hv605 fun ac610 En611 => ?_
    refine f_o ?_
    refine c_l [3,4] (M := [.box tb [.slice ay (List.length xs2) cy] 43, .vec ay cy 5 (List.flatMap fRF xs2) 48]) En611 Hv605 (fun hM612 => rread_none _ tb ay cy xs2 I2.len ob (by assumption) hh hM612) ?_
    rintro _ wo613 ⟨rfl, he614⟩
    refine ⟨_, _, [.box tb [.slice ay (List.length xs2) cy] 43, .vec ay cy 5 (List.flatMap fRF xs2) 48, .box sb [.map (some mb)] 52, .map mb (kvs FV.v m2), .vec ao18 cp19 1 (bys lx) 5, .grp D2, .box bk1 [.int .i64 oa, .string (bstr ob), .slice a_oc (List.length oc) c_oc, .int .i64 od] 46], rfl, he614, by kernel_rfl, fun ac616 En617 Hv618 => ?_⟩
    refine d_e [0,1,5,6,7,8,9,10,11,12,13,14,22] [] En617 fun ac619 En620 => ?_
    refine then_normal ?_
    refine wp_seq ?_
    refine region_from ?_
    refine d_k [0,1,5,6,7,8,9,10,11,12,13,14,22,99] [] 1 En620 fun ac621 En622 => ?_
    refine f_o ?_
    refine op_str (d := some 100) (src := 22) (dst := 9) (e := 5) (ao := none) (cap := 0) (p := 0) (bs := []) En622 (by kernel_rfl) rfl (by kernel_rfl) (by kernel_rfl) (by kernel_rfl) (rfl : bys [] = []) (fun _ => rfl) ?_
    intro ac623 En624
    refine d_k [0,1,5,6,7,8,9,10,11,12,14,22,100,101] [] 3 En624 fun ac625 En626 => ?_
    refine f_o ?_
    refine op_str (d := some 102) (src := 22) (dst := 9) (e := 5) (ao := none) (cap := 0) (p := 0) (bs := []) En626 (by kernel_rfl) rfl (by kernel_rfl) (by kernel_rfl) (by kernel_rfl) (rfl : bys [] = []) (fun _ => rfl) ?_
    intro ac627 En628
    refine d_e [0,1,5,6,7,8,9,10,11,15,22] [(4, g_v (show (.bool (ByteArray.toList (bstr []) == ByteArray.toList (bstr [])) : Value) = .bool true by rw [Go.Dbr.bstr_eq [] [], show ([] == []) = true from (by first | rfl | decide)] <;> rfl))] En628 fun ac629 En630 => ?_
    refine then_normal ?_
    refine wp_seq ?_
    refine wp_seq ?_
    refine d_r [0,1,5,6,7,8,9,10,11,15,16,22] [] En630 fun ac631 En632 => ?_
    refine then_normal ?_
    refine wp_block ?_
    refine loop_enter ?_
    refine loop_once ?_
    refine wp_seq ?_
    refine wp_seq ?_
    refine d_r [0,1,5,6,7,8,9,10,11,15,16,22,112] [] En632 fun ac633 En634 => ?_
    refine then_normal ?_
    refine c_f En634 ?_
    refine wp_exit ?_
    refine then_exit ?_
    refine then_exit ?_
    refine block_exit ?_
    refine then_normal ?_
    refine wp_seq ?_
    refine r_c (fun ac wo => Env ac 138 [(0, pt sb), (1, pt tb), (5, pt bk1), (6, .bool true), (7, .slice ao18 (List.length oc) cp19), (10, ni i1), (11, .slice none 0 0), (16, .int .i64 0), (22, .int .i64 oa)] ∧ Ev w [.box sb [.map (some mb)] 52, .map mb (kvs FV.v m), .box tb [.slice ax (List.length xs) cx] 43, .vec ax cx 5 (List.flatMap fRF xs) 48, .grp D] wo [.box tb [.slice ay (List.length xs2) cy] 43, .vec ay cy 5 (List.flatMap fRF xs2) 48, .box sb [.map (some mb)] 52, .map mb (kvs FV.v m2), .vec ao18 cp19 1 (bys lx) 5, .grp D2, .box bk1 [.int .i64 oa, .string (bstr ob), .slice a_oc (List.length oc) c_oc, .int .i64 od] 46]) ?_ ?_
    ·
     refine h_s (fun wv => Ev w [.box sb [.map (some mb)] 52, .map mb (kvs FV.v m), .box tb [.slice ax (List.length xs) cx] 43, .vec ax cx 5 (List.flatMap fRF xs) 48, .grp D] wv [.box bk1 [.int .i64 oa, .string (bstr ob), .slice a_oc (List.length oc) c_oc, .int .i64 od] 46]) [] 18 ?_
     have wo635 := Hv618.trans (Ev.drew Hv618.heap)
     refine q_s [0,1,2,3,4,5,6,7,8] [(2, g_b (show (c9 == c9) = true from (beq_self_eq_true _)))] 9 En634 (wo635.pick [6] (by kernel_rfl) (by decide)) fun ac720 En721 => ?_
     refine q_l 0 9 En721 (wo635.pick [6] (by kernel_rfl) (by decide)) fun ac722 En723 => ?_
     refine q_s [11,12] [] 6 En723 (wo635.pick [6] (by kernel_rfl) (by decide)) fun ac724 En725 => ?_
     refine q_l 0 13 En725 (wo635.pick [6] (by kernel_rfl) (by decide)) fun ac726 En727 => ?_
     refine q_t 10 ?_
     refine c_l [2,3] (M := [.box sb [.map (some mb)] 52, .map mb (kvs FV.v m2)]) En727 wo635 (fun hM728 => torn_goX _ sb mb m2 ob (by assumption) (tornX ob xs2) I2.torn hM728) ?_
     rintro _ wo729 ⟨rfl, he730⟩
     refine ⟨_, _, [.box sb [.map (some mb)] 52, .map mb (kvs FV.v m2), .box tb [.slice ay (List.length xs2) cy] 43, .vec ay cy 5 (List.flatMap fRF xs2) 48, .vec ao18 cp19 1 (bys lx) 5, .grp D2, .box bk1 [.int .i64 oa, .string (bstr ob), .slice a_oc (List.length oc) c_oc, .int .i64 od] 46], rfl, he730, by kernel_rfl, fun ac732 En733 Hv734 => ?_⟩
     refine ⟨fun _ => Hv734.pick [6] (by kernel_rfl) (by decide), ?_⟩
     refine q_t 14 ?_
     refine c_l [2,3] (M := [.box tb [.slice ay (List.length xs2) cy] 43, .vec ay cy 5 (List.flatMap fRF xs2) 48]) En733 Hv734 (fun hM735 => rtorn_go _ tb ay cy xs2 I2.len ob (by assumption) hM735) ?_
     rintro _ wo736 ⟨rfl, he737⟩
     refine ⟨_, _, [.box tb [.slice ay (List.length xs2) cy] 43, .vec ay cy 5 (List.flatMap fRF xs2) 48, .box sb [.map (some mb)] 52, .map mb (kvs FV.v m2), .vec ao18 cp19 1 (bys lx) 5, .grp D2, .box bk1 [.int .i64 oa, .string (bstr ob), .slice a_oc (List.length oc) c_oc, .int .i64 od] 46], rfl, he737, by kernel_rfl, fun ac739 En740 Hv741 => ?_⟩
     refine ⟨fun _ => Hv741.pick [6] (by kernel_rfl) (by decide), ?_⟩
     refine q_s [15,16,17] [(15, g_b (show ((tornX ob xs2) == (tornX ob xs2)) = true from (beq_self_eq_true _)))] 0 En740 (Hv741.pick [6] (by kernel_rfl) (by decide)) fun ac742 En743 => ?_
     exact h_e ⟨En743.sub (by kernel_rfl), Hv741.pick [0, 1, 2, 3, 4, 5, 6] (by kernel_rfl) (by decide)⟩
    rintro ac744 wo745 ⟨En746, Hv747⟩
    refine then_normal ?_
    refine wp_ret ?_
    refine d_ret1 (t := 6) (v := .bool true) En746 (by kernel_rfl) (by kernel_rfl) ?_
    exact ⟨m2, xs2, D2, ay, cy, rfl, Hv747.pick [2, 3, 0, 1, 5] (by kernel_rfl) (by decide), I2⟩

end Go.Proofs.Ytfeibokonhdgnaa
