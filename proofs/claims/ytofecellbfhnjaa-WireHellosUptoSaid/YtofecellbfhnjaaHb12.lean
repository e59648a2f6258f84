import Derived.Test.YtofecellbfhnjaaHb10
import Derived.Test.YtofecellbfhnjaaHb11
import Derived.Test.YtofecellbfhnjaaHb9
import Derived.Test.YtofecellbfhnjaaHb5
import Derived.Test.YtofecellbfhnjaaHb6
/- Layer 17: greetings are given by the document; compared. -/


namespace Go.Proofs.Ytofecellbfhnjaa
open Go.Dbr
set_option maxRecDepth 100000
set_option maxHeartbeats 2000000
set_option linter.unusedVariables false
set_option linter.unusedSimpArgs false

def dsrvO (l : Bs) (s o : Bool) : HL × PS := dsrvM l s

theorem hellos_go (w : World) (p0 : UInt16) (p1 : Bs) (p2a : Option Addr) (p2n p2c : Nat) (p3a : Option Addr) (p3n p3c : Nat) (p4a : Option Addr) (p4n p4c : Nat) (hp : List.length p1 = 32) (k : Int) : Calls Try.prog 175 #[.agg (List.toArray (([uv16 p0] : List Value) ++ ((bys p1) ++ ([.slice p2a p2n p2c, .slice p3a p3n p3c, .slice p4a p4n p4c] : List Value)))), .int .i64 k] w fun e w' => ∃ r0 r1 r2a r2n r2c r3a r3n r3c r4a r4n r4c, e = .returned (.tuple #[.agg (List.toArray (([uv16 r0] : List Value) ++ ((bys r1) ++ ([.slice r2a r2n r2c, .slice r3a r3n r3c, .slice r4a r4n r4c] : List Value)))), .int .i64 k]) ∧ Ev w [] w' [] ∧ r0 = (if k = 0 then p0 else 0) ∧ r1 = (if k = 0 then p1 else (List.replicate 32 0)) ∧ r2a = (if k = 0 then p2a else none) ∧ r2n = (if k = 0 then p2n else 0) ∧ r2c = (if k = 0 then p2c else 0) ∧ r3a = (if k = 0 then p3a else none) ∧ r3n = (if k = 0 then p3n else 0) ∧ r3c = (if k = 0 then p3c else 0) ∧ r4a = (if k = 0 then p4a else none) ∧ r4n = (if k = 0 then p4n else 0) ∧ r4c = (if k = 0 then p4c else 0) ∧ List.length r1 = 32 := by
 refine d_0 [(0, .agg (List.toArray (([uv16 p0] : List Value) ++ ((bys p1) ++ ([.slice p2a p2n p2c, .slice p3a p3n p3c, .slice p4a p4n p4c] : List Value))))), (1, .int .i64 k)] 12 Go.Proofs.Try.func175 Go.Proofs.Try.ntmps175 (Heap.nil _) fun act0 En0 Hv0 => ?_
 refine wp_seq ?_
 refine region_from ?_
 refine f_o ?_
 refine m_m 75 (([uv16 p0] : List Value) ++ ((bys p1) ++ ([.slice p2a p2n p2c, .slice p3a p3n p3c, .slice p4a p4n p4c] : List Value))) En0 Hv0 fun ac2 wo3 bk1 En4 Hv5 => ?_
 refine f_o ?_
 refine m_z 75 (([.int .u16 0] : List Value) ++ ((bys (List.replicate 32 0)) ++ ([.slice none 0 0, .slice none 0 0, .slice none 0 0] : List Value))) En4 Hv5 fun ac7 wo8 bk6 En9 Hv10 => ?_
 refine d_e [1,2,4,5] [] En9 fun ac11 En12 => ?_
 refine then_normal ?_
 refine wp_seq ?_
 refine d_s [1,2,4,5,7] [] En12 fun ac13 En14 => ?_
 refine c_n k (0 : Int) En14 (fun hc15 => ?_) (fun hc15 => ?_)
 ·
  refine wp_seq ?_
  refine region_from ?_
  refine d_k [1,2,4,5,8,9] [] 2 En14 fun ac16 En17 => ?_
  refine f_o ?_
  refine m_g 1 0 36 (([.int .u16 0] : List Value) ++ ((bys (List.replicate 32 0)) ++ ([.slice none 0 0, .slice none 0 0, .slice none 0 0] : List Value))) (([.int .u16 0] : List Value) ++ ((bys (List.replicate 32 0)) ++ ([.slice none 0 0, .slice none 0 0, .slice none 0 0] : List Value))) [.box bk1 (([uv16 p0] : List Value) ++ ((bys p1) ++ ([.slice p2a p2n p2c, .slice p3a p3n p3c, .slice p4a p4n p4c] : List Value))) 75, .box bk6 (([.int .u16 0] : List Value) ++ ((bys (List.replicate 32 0)) ++ ([.slice none 0 0, .slice none 0 0, .slice none 0 0] : List Value))) 75] En17 Hv10 rfl (len_app rfl (len_app (bys_lenh (List.length_replicate)) rfl)) (by rw [(len_app rfl (len_app (bys_lenh (List.length_replicate)) rfl))]; first | decide | (simp; done)) (one_app (one_all (by kernel_rfl)) (one_app (bys_one _) (one_all (by kernel_rfl)))) (store_whole (len_app rfl (len_app (bys_lenh (List.length_replicate)) rfl))) rfl fun ac18 wo19 En20 Hv21 => ?_
  refine d_e [1,2,4,5] [] En20 fun ac22 En23 => ?_
  refine then_normal ?_
  refine wp_ret ?_
  refine then_ret ?_
  refine d_cell_tmp (v := .agg (List.toArray (([.int .u16 0] : List Value) ++ ((bys (List.replicate 32 0)) ++ ([.slice none 0 0, .slice none 0 0, .slice none 0 0] : List Value))))) (x := .int .i64 k) (t := 4) (T := 75) (ad := ⟨bk6, 0, none⟩) (u := 5) En23 (by kernel_rfl) (by kernel_rfl) (Ev.cellAgg (t := 75) (k := 1) (off := 0) (m := 36) (xs := ([.int .u16 0] : List Value) ++ ((bys (List.replicate 32 0)) ++ ([.slice none 0 0, .slice none 0 0, .slice none 0 0] : List Value))) Hv21 rfl (load_whole (len_app rfl (len_app (bys_lenh (List.length_replicate)) rfl))) (len_app rfl (len_app (bys_lenh (List.length_replicate)) rfl)) (by kernel_rfl) (by kernel_rfl)) (by kernel_rfl) ?_
  exact ⟨0, (List.replicate 32 0), none, 0, 0, none, 0, 0, none, 0, 0, rfl, Hv21.pk [], (if_neg (by assumption)).symm, (if_neg (by assumption)).symm, (if_neg (by assumption)).symm, (if_neg (by assumption)).symm, (if_neg (by assumption)).symm, (if_neg (by assumption)).symm, (if_neg (by assumption)).symm, (if_neg (by assumption)).symm, (if_neg (by assumption)).symm, (if_neg (by assumption)).symm, (if_neg (by assumption)).symm, List.length_replicate⟩
 ·
  refine wp_skip ?_
  refine then_normal ?_
  refine wp_seq ?_
  refine region_from ?_
  refine f_o ?_
  refine m_a 0 0 36 (([uv16 p0] : List Value) ++ ((bys p1) ++ ([.slice p2a p2n p2c, .slice p3a p3n p3c, .slice p4a p4n p4c] : List Value))) En14 Hv10 rfl (load_whole (len_app rfl (len_app (bys_lenh hp) rfl))) (len_app rfl (len_app (bys_lenh hp) rfl)) fun ac24 En25 => ?_
  refine d_k [1,4,5,10,11] [] 2 En25 fun ac26 En27 => ?_
  refine f_o ?_
  refine m_g 1 0 36 (([uv16 p0] : List Value) ++ ((bys p1) ++ ([.slice p2a p2n p2c, .slice p3a p3n p3c, .slice p4a p4n p4c] : List Value))) (([uv16 p0] : List Value) ++ ((bys p1) ++ ([.slice p2a p2n p2c, .slice p3a p3n p3c, .slice p4a p4n p4c] : List Value))) [.box bk1 (([uv16 p0] : List Value) ++ ((bys p1) ++ ([.slice p2a p2n p2c, .slice p3a p3n p3c, .slice p4a p4n p4c] : List Value))) 75, .box bk6 (([uv16 p0] : List Value) ++ ((bys p1) ++ ([.slice p2a p2n p2c, .slice p3a p3n p3c, .slice p4a p4n p4c] : List Value))) 75] En27 Hv10 rfl (len_app rfl (len_app (bys_lenh hp) rfl)) (by rw [(len_app rfl (len_app (bys_lenh (List.length_replicate)) rfl))]; first | decide | (simp; done)) (one_app (one_all (by kernel_rfl)) (one_app (bys_one _) (one_all (by kernel_rfl)))) (store_whole (len_app rfl (len_app (bys_lenh (List.length_replicate)) rfl))) rfl fun ac28 wo29 En30 Hv31 => ?_
  refine d_e [1,4,5] [] En30 fun ac32 En33 => ?_
  refine then_normal ?_
  refine wp_ret ?_
  refine d_cell_tmp (v := .agg (List.toArray (([uv16 p0] : List Value) ++ ((bys p1) ++ ([.slice p2a p2n p2c, .slice p3a p3n p3c, .slice p4a p4n p4c] : List Value))))) (x := .int .i64 k) (t := 4) (T := 75) (ad := ⟨bk6, 0, none⟩) (u := 5) En33 (by kernel_rfl) (by kernel_rfl) (Ev.cellAgg (t := 75) (k := 1) (off := 0) (m := 36) (xs := ([uv16 p0] : List Value) ++ ((bys p1) ++ ([.slice p2a p2n p2c, .slice p3a p3n p3c, .slice p4a p4n p4c] : List Value))) Hv31 rfl (load_whole (len_app rfl (len_app (bys_lenh hp) rfl))) (len_app rfl (len_app (bys_lenh hp) rfl)) (by kernel_rfl) (by kernel_rfl)) (by kernel_rfl) ?_
  exact ⟨p0, p1, p2a, p2n, p2c, p3a, p3n, p3c, p4a, p4n, p4c, rfl, Hv31.pk [], (if_pos (by first | assumption | exact Classical.not_not.1 (by assumption))).symm, (if_pos (by first | assumption | exact Classical.not_not.1 (by assumption))).symm, (if_pos (by first | assumption | exact Classical.not_not.1 (by assumption))).symm, (if_pos (by first | assumption | exact Classical.not_not.1 (by assumption))).symm, (if_pos (by first | assumption | exact Classical.not_not.1 (by assumption))).symm, (if_pos (by first | assumption | exact Classical.not_not.1 (by assumption))).symm, (if_pos (by first | assumption | exact Classical.not_not.1 (by assumption))).symm, (if_pos (by first | assumption | exact Classical.not_not.1 (by assumption))).symm, (if_pos (by first | assumption | exact Classical.not_not.1 (by assumption))).symm, (if_pos (by first | assumption | exact Classical.not_not.1 (by assumption))).symm, (if_pos (by first | assumption | exact Classical.not_not.1 (by assumption))).symm, hp⟩

theorem dgetclienthello_go (w : World) (aq : Option Addr) (nq cq : Nat) (lq : List UInt8) (eq : nq = List.length lq) (iq : InB w [] aq cq lq) : Calls Try.prog 68 #[.slice aq nq cq] w fun e w' => ∃ xva alb oac occ blc oad ocd xsd oae oce xse, e = .returned (.tuple #[.agg (List.toArray (([uv16 xva] : List Value) ++ ((bys alb) ++ ([.slice oac (List.length blc) occ, .slice oad (List.length xsd) ocd, .slice oae (List.length xse) oce] : List Value)))), .int .i64 (gotA (dcliM lq false false))]) ∧ Ev w [] w' [.vec oac occ 1 (bys blc) 5, .vec oad ocd 1 (List.flatMap fU16 xsd) 37, .vec oae oce 2 (List.flatMap fExt xse) 147, .grp (List.flatMap innExt xse)] ∧ (xva, alb, blc, List.map (fun y : RU16 => y) xsd, List.map (fun y : RExt => (y.1, y.2.1.l)) xse) = gotV (0, (List.replicate 32 0), [], [], []) (dcliM lq false false) ∧ List.length alb = 32 ∧ List.length blc ≤ 4294967296 ∧ List.length xsd ≤ 4294967296 ∧ List.length xse ≤ 4294967296 ∧ ∀ y ∈ xse, List.length y.2.1.l ≤ 140737488351232 := by
 subst eq
 refine d_0 [(0, .slice aq (List.length lq) cq)] 17 Go.Proofs.Try.func68 Go.Proofs.Try.ntmps68 (Heap.nil _) fun act0 En0 Hv0 => ?_
 refine wp_seq ?_
 refine region_from ?_
 refine f_o ?_
 refine m_z 75 (([.int .u16 0] : List Value) ++ ((bys (List.replicate 32 0)) ++ ([.slice none 0 0, .slice none 0 0, .slice none 0 0] : List Value))) En0 Hv0 fun ac2 wo3 bk1 En4 Hv5 => ?_
 refine d_e [0,2,3] [] En4 fun ac6 En7 => ?_
 refine then_normal ?_
 refine wp_seq ?_
 refine region_from ?_
 refine d_k [2,3,7] [] 2 En7 fun ac8 En9 => ?_
 refine f_o ?_
 refine m_m 154 [.slice aq (List.length lq) cq, .bool false, .bool false] En9 Hv5 fun ac11 wo12 bk10 En13 Hv14 => ?_
 refine d_e [2,3,4] [] En13 fun ac15 En16 => ?_
 refine then_normal ?_
 refine wp_seq ?_
 refine region_from ?_
 refine d_k [2,3,4,9] [] 1 En16 fun ac17 En18 => ?_
 refine f_o ?_
 refine c_l [1] (M := [.box bk10 [.slice aq (List.length lq) cq, .bool false, .bool false] 154]) En18 Hv14 (fun hM39 => dhelloc_go _ bk10 aq cq lq false false ((iq.ev Hv14).pick [1] (by kernel_rfl)) hM39) ?_
 rintro _ wo40 ⟨ta19, tc20, xva23, alb24, oac25, occ26, blc27, oad28, ocd29, xsd30, oae31, oce32, xse33, rfl, he41, hs21, hpu22, hf34, hf35, hf36, hf37, hf38⟩
 refine ⟨_, _, [.box bk10 [.slice ta19 (List.length ((dcliM lq false false).2.1)) tc20, .bool ((dcliM lq false false).2.2.1), .bool ((dcliM lq false false).2.2.2)] 154, .vec oac25 occ26 1 (bys blc27) 5, .vec oad28 ocd29 1 (List.flatMap fU16 xsd30) 37, .vec oae31 oce32 2 (List.flatMap fExt xse33) 147, .grp (List.flatMap innExt xse33), .box bk1 (([.int .u16 0] : List Value) ++ ((bys (List.replicate 32 0)) ++ ([.slice none 0 0, .slice none 0 0, .slice none 0 0] : List Value))) 75], rfl, he41, by kernel_rfl, fun ac43 En44 Hv45 => ?_⟩
 refine f_o ?_
 refine m_z 75 (([.int .u16 0] : List Value) ++ ((bys (List.replicate 32 0)) ++ ([.slice none 0 0, .slice none 0 0, .slice none 0 0] : List Value))) En44 Hv45 fun ac47 wo48 bk46 En49 Hv50 => ?_
 refine f_o ?_
 refine m_g 6 0 36 (([uv16 xva23] : List Value) ++ ((bys alb24) ++ ([.slice oac25 (List.length blc27) occ26, .slice oad28 (List.length xsd30) ocd29, .slice oae31 (List.length xse33) oce32] : List Value))) (([uv16 xva23] : List Value) ++ ((bys alb24) ++ ([.slice oac25 (List.length blc27) occ26, .slice oad28 (List.length xsd30) ocd29, .slice oae31 (List.length xse33) oce32] : List Value))) [.box bk10 [.slice ta19 (List.length ((dcliM lq false false).2.1)) tc20, .bool ((dcliM lq false false).2.2.1), .bool ((dcliM lq false false).2.2.2)] 154, .vec oac25 occ26 1 (bys blc27) 5, .vec oad28 ocd29 1 (List.flatMap fU16 xsd30) 37, .vec oae31 oce32 2 (List.flatMap fExt xse33) 147, .grp (List.flatMap innExt xse33), .box bk1 (([.int .u16 0] : List Value) ++ ((bys (List.replicate 32 0)) ++ ([.slice none 0 0, .slice none 0 0, .slice none 0 0] : List Value))) 75, .box bk46 (([uv16 xva23] : List Value) ++ ((bys alb24) ++ ([.slice oac25 (List.length blc27) occ26, .slice oad28 (List.length xsd30) ocd29, .slice oae31 (List.length xse33) oce32] : List Value))) 75] En49 Hv50 rfl (len_app rfl (len_app (bys_lenh (by assumption)) rfl)) (by rw [(len_app rfl (len_app (bys_lenh (List.length_replicate)) rfl))]; first | decide | (simp; done)) (one_app (one_all (by kernel_rfl)) (one_app (bys_one _) (one_all (by kernel_rfl)))) (store_whole (len_app rfl (len_app (bys_lenh (List.length_replicate)) rfl))) rfl fun ac51 wo52 En53 Hv54 => ?_
 refine f_e ?_
 refine then_normal ?_
 refine wp_seq ?_
 refine r_c (fun ac wo => ∃ (hr143q0 : _) (hr143q1 : _) (hr143q2a : _) (hr143q2n : _) (hr143q2c : _) (hr143q3a : _) (hr143q3n : _) (hr143q3c : _) (hr143q4a : _) (hr143q4n : _) (hr143q4c : _), Env ac 17 [(2, pt bk1), (3, .int .i64 (endV ((dcliM lq false false).2.2.1) (List.length ((dcliM lq false false).2.1)) ((dcliM lq false false).2.2.2))), (4, pt bk10), (5, pt bk46)] ∧ Ev w [] wo [.box bk10 [.slice ta19 (List.length ((dcliM lq false false).2.1)) tc20, .bool ((dcliM lq false false).2.2.1), .bool ((dcliM lq false false).2.2.2)] 154, .vec oac25 occ26 1 (bys blc27) 5, .vec oad28 ocd29 1 (List.flatMap fU16 xsd30) 37, .vec oae31 oce32 2 (List.flatMap fExt xse33) 147, .grp (List.flatMap innExt xse33), .box bk1 (([uv16 hr143q0] : List Value) ++ ((bys hr143q1) ++ ([.slice hr143q2a hr143q2n hr143q2c, .slice hr143q3a hr143q3n hr143q3c, .slice hr143q4a hr143q4n hr143q4c] : List Value))) 75, .box bk46 (([uv16 xva23] : List Value) ++ ((bys alb24) ++ ([.slice oac25 (List.length blc27) occ26, .slice oad28 (List.length xsd30) ocd29, .slice oae31 (List.length xse33) oce32] : List Value))) 75] ∧ (hr143q0 = (if (endV ((dcliM lq false false).2.2.1) (List.length ((dcliM lq false false).2.1)) ((dcliM lq false false).2.2.2)) = 0 then xva23 else 0)) ∧ (hr143q1 = (if (endV ((dcliM lq false false).2.2.1) (List.length ((dcliM lq false false).2.1)) ((dcliM lq false false).2.2.2)) = 0 then alb24 else (List.replicate 32 0))) ∧ (hr143q2a = (if (endV ((dcliM lq false false).2.2.1) (List.length ((dcliM lq false false).2.1)) ((dcliM lq false false).2.2.2)) = 0 then oac25 else none)) ∧ (hr143q2n = (if (endV ((dcliM lq false false).2.2.1) (List.length ((dcliM lq false false).2.1)) ((dcliM lq false false).2.2.2)) = 0 then (List.length blc27) else 0)) ∧ (hr143q2c = (if (endV ((dcliM lq false false).2.2.1) (List.length ((dcliM lq false false).2.1)) ((dcliM lq false false).2.2.2)) = 0 then occ26 else 0)) ∧ (hr143q3a = (if (endV ((dcliM lq false false).2.2.1) (List.length ((dcliM lq false false).2.1)) ((dcliM lq false false).2.2.2)) = 0 then oad28 else none)) ∧ (hr143q3n = (if (endV ((dcliM lq false false).2.2.1) (List.length ((dcliM lq false false).2.1)) ((dcliM lq false false).2.2.2)) = 0 then (List.length xsd30) else 0)) ∧ (hr143q3c = (if (endV ((dcliM lq false false).2.2.1) (List.length ((dcliM lq false false).2.1)) ((dcliM lq false false).2.2.2)) = 0 then ocd29 else 0)) ∧ (hr143q4a = (if (endV ((dcliM lq false false).2.2.1) (List.length ((dcliM lq false false).2.1)) ((dcliM lq false false).2.2.2)) = 0 then oae31 else none)) ∧ (hr143q4n = (if (endV ((dcliM lq false false).2.2.1) (List.length ((dcliM lq false false).2.1)) ((dcliM lq false false).2.2.2)) = 0 then (List.length xse33) else 0)) ∧ (hr143q4c = (if (endV ((dcliM lq false false).2.2.1) (List.length ((dcliM lq false false).2.1)) ((dcliM lq false false).2.2.2)) = 0 then oce32 else 0)) ∧ (List.length hr143q1 = 32)) ?_ ?_
 ·
  refine h_s (fun wv => Ev w [] wv [.box bk46 (([uv16 xva23] : List Value) ++ ((bys alb24) ++ ([.slice oac25 (List.length blc27) occ26, .slice oad28 (List.length xsd30) ocd29, .slice oae31 (List.length xse33) oce32] : List Value))) 75]) [] 8 ?_
  have wo55 := Hv54.trans (Ev.drew Hv54.heap)
  refine q_r 0 (s := Instr.loadAt 75 (pt bk46)) (v := .agg (List.toArray (([uv16 xva23] : List Value) ++ ((bys alb24) ++ ([.slice oac25 (List.length blc27) occ26, .slice oad28 (List.length xsd30) ocd29, .slice oae31 (List.length xse33) oce32] : List Value))))) En53 (fun w hS => run_loadAgg2 (m := 36) (cs := ([uv16 xva23] : List Value) ++ ((bys alb24) ++ ([.slice oac25 (List.length blc27) occ26, .slice oad28 (List.length xsd30) ocd29, .slice oae31 (List.length xse33) oce32] : List Value))) (len_app rfl (len_app (bys_lenh (by assumption)) rfl)) (by kernel_rfl) (by kernel_rfl) (hS.heap.cells (k := 0) (off := 0) (m := 36) rfl (load_whole (len_app rfl (len_app (bys_lenh (by assumption)) rfl))))) (wo55.pk [6]) fun ac171 En172 => ?_
  refine q_s [1] [] 6 En172 (wo55.pk [6]) fun ac173 En174 => ?_
  refine q_t 2 ?_
  refine c_l [0] (M := [.box bk10 [.slice ta19 (List.length ((dcliM lq false false).2.1)) tc20, .bool ((dcliM lq false false).2.2.1), .bool ((dcliM lq false false).2.2.2)] 154]) En174 wo55 (fun hM175 => dend_go _ bk10 ta19 (List.length ((dcliM lq false false).2.1)) tc20 ((dcliM lq false false).2.2.1) ((dcliM lq false false).2.2.2) hM175) ?_
  rintro _ wo176 ⟨rfl, he177⟩
  refine ⟨_, _, [.box bk10 [.slice ta19 (List.length ((dcliM lq false false).2.1)) tc20, .bool ((dcliM lq false false).2.2.1), .bool ((dcliM lq false false).2.2.2)] 154, .vec oac25 occ26 1 (bys blc27) 5, .vec oad28 ocd29 1 (List.flatMap fU16 xsd30) 37, .vec oae31 oce32 2 (List.flatMap fExt xse33) 147, .grp (List.flatMap innExt xse33), .box bk1 (([.int .u16 0] : List Value) ++ ((bys (List.replicate 32 0)) ++ ([.slice none 0 0, .slice none 0 0, .slice none 0 0] : List Value))) 75, .box bk46 (([uv16 xva23] : List Value) ++ ((bys alb24) ++ ([.slice oac25 (List.length blc27) occ26, .slice oad28 (List.length xsd30) ocd29, .slice oae31 (List.length xse33) oce32] : List Value))) 75], rfl, he177, by kernel_rfl, fun ac179 En180 Hv181 => ?_⟩
  refine ⟨fun _ => Hv181.pk [6], ?_⟩
  refine q_t 3 ?_
  refine c_0 En180 Hv181 (hellos_go _ xva23 alb24 oac25 (List.length blc27) occ26 oad28 (List.length xsd30) ocd29 oae31 (List.length xse33) oce32 (by assumption) (endV ((dcliM lq false false).2.2.1) (List.length ((dcliM lq false false).2.1)) ((dcliM lq false false).2.2.2))) ?_
  rintro _ wo196 ⟨hr182q0, hr182q1, hr182q2a, hr182q2n, hr182q2c, hr182q3a, hr182q3n, hr182q3c, hr182q4a, hr182q4n, hr182q4c, rfl, he197, hf183, hf184, hf185, hf186, hf187, hf188, hf189, hf190, hf191, hf192, hf193, hf194⟩
  refine ⟨_, _, _, rfl, he197, rfl, fun ac199 En200 Hv201 => ?_⟩
  refine ⟨fun _ => Hv201.pk [6], ?_⟩
  refine q_s [4,5] [] 2 En200 (Hv201.pk [6]) fun ac202 En203 => ?_
  refine q_t 6 ?_
  refine m_g 5 0 36 (([uv16 hr182q0] : List Value) ++ ((bys hr182q1) ++ ([.slice hr182q2a hr182q2n hr182q2c, .slice hr182q3a hr182q3n hr182q3c, .slice hr182q4a hr182q4n hr182q4c] : List Value))) (([uv16 hr182q0] : List Value) ++ ((bys hr182q1) ++ ([.slice hr182q2a hr182q2n hr182q2c, .slice hr182q3a hr182q3n hr182q3c, .slice hr182q4a hr182q4n hr182q4c] : List Value))) [.box bk10 [.slice ta19 (List.length ((dcliM lq false false).2.1)) tc20, .bool ((dcliM lq false false).2.2.1), .bool ((dcliM lq false false).2.2.2)] 154, .vec oac25 occ26 1 (bys blc27) 5, .vec oad28 ocd29 1 (List.flatMap fU16 xsd30) 37, .vec oae31 oce32 2 (List.flatMap fExt xse33) 147, .grp (List.flatMap innExt xse33), .box bk1 (([uv16 hr182q0] : List Value) ++ ((bys hr182q1) ++ ([.slice hr182q2a hr182q2n hr182q2c, .slice hr182q3a hr182q3n hr182q3c, .slice hr182q4a hr182q4n hr182q4c] : List Value))) 75, .box bk46 (([uv16 xva23] : List Value) ++ ((bys alb24) ++ ([.slice oac25 (List.length blc27) occ26, .slice oad28 (List.length xsd30) ocd29, .slice oae31 (List.length xse33) oce32] : List Value))) 75] En203 Hv201 rfl (len_app rfl (len_app (bys_lenh (by assumption)) rfl)) (by rw [(len_app rfl (len_app (bys_lenh (List.length_replicate)) rfl))]; first | decide | (simp; done)) (one_app (one_all (by kernel_rfl)) (one_app (bys_one _) (one_all (by kernel_rfl)))) (store_whole (len_app rfl (len_app (bys_lenh (List.length_replicate)) rfl))) rfl fun ac204 wo205 En206 Hv207 => ?_
  refine ⟨fun _ => Hv207.pk [6], ?_⟩
  refine q_s [7] [] 0 En206 (Hv207.pk [6]) fun ac208 En209 => ?_
  exact h_e ⟨hr182q0, hr182q1, hr182q2a, hr182q2n, hr182q2c, hr182q3a, hr182q3n, hr182q3c, hr182q4a, hr182q4n, hr182q4c, En209.sb, Hv207.pk [0, 1, 2, 3, 4, 5, 6], hf183, hf184, hf185, hf186, hf187, hf188, hf189, hf190, hf191, hf192, hf193, hf194⟩
 rintro ac210 wo211 ⟨hr143q0, hr143q1, hr143q2a, hr143q2n, hr143q2c, hr143q3a, hr143q3n, hr143q3c, hr143q4a, hr143q4n, hr143q4c, En212, Hv213, hf144, hf145, hf146, hf147, hf148, hf149, hf150, hf151, hf152, hf153, hf154, hf155⟩
 refine then_normal ?_
 refine wp_ret ?_
 refine d_cell_tmp (v := .agg (List.toArray (([uv16 hr143q0] : List Value) ++ ((bys hr143q1) ++ ([.slice hr143q2a hr143q2n hr143q2c, .slice hr143q3a hr143q3n hr143q3c, .slice hr143q4a hr143q4n hr143q4c] : List Value))))) (x := .int .i64 (endV ((dcliM lq false false).2.2.1) (List.length ((dcliM lq false false).2.1)) ((dcliM lq false false).2.2.2))) (t := 2) (T := 75) (ad := ⟨bk1, 0, none⟩) (u := 3) En212 (by kernel_rfl) (by kernel_rfl) (Ev.cellAgg (t := 75) (k := 5) (off := 0) (m := 36) (xs := ([uv16 hr143q0] : List Value) ++ ((bys hr143q1) ++ ([.slice hr143q2a hr143q2n hr143q2c, .slice hr143q3a hr143q3n hr143q3c, .slice hr143q4a hr143q4n hr143q4c] : List Value))) Hv213 rfl (load_whole (len_app rfl (len_app (bys_lenh (by assumption)) rfl))) (len_app rfl (len_app (bys_lenh (by assumption)) rfl)) (by kernel_rfl) (by kernel_rfl)) (by kernel_rfl) ?_
 have eA : gotA (dcliM lq false false) = endV ((dcliM lq false false).2.2.1) (List.length ((dcliM lq false false).2.1)) ((dcliM lq false false).2.2.2) := rfl
 by_cases hk : endV ((dcliM lq false false).2.2.1) (List.length ((dcliM lq false false).2.1)) ((dcliM lq false false).2.2.2) = 0
 ·
  rw [gotV_0 (eA.trans hk), eA]
  rw [if_pos hk] at hf144
  rw [if_pos hk] at hf145
  rw [if_pos hk] at hf146
  rw [if_pos hk] at hf147
  rw [if_pos hk] at hf148
  rw [if_pos hk] at hf149
  rw [if_pos hk] at hf150
  rw [if_pos hk] at hf151
  rw [if_pos hk] at hf152
  rw [if_pos hk] at hf153
  rw [if_pos hk] at hf154
  rw [hf144, hf145, hf146, hf147, hf148, hf149, hf150, hf151, hf152, hf153, hf154]
  exact ⟨xva23, alb24, oac25, occ26, blc27, oad28, ocd29, xsd30, oae31, oce32, xse33, rfl, Hv213.pk [1, 2, 3, 4], hpu22, hf34, hf35, hf36, hf37, hf38⟩
 ·
  rw [gotV_n eA hk, eA]
  rw [if_neg hk] at hf144
  rw [if_neg hk] at hf145
  rw [if_neg hk] at hf146
  rw [if_neg hk] at hf147
  rw [if_neg hk] at hf148
  rw [if_neg hk] at hf149
  rw [if_neg hk] at hf150
  rw [if_neg hk] at hf151
  rw [if_neg hk] at hf152
  rw [if_neg hk] at hf153
  rw [if_neg hk] at hf154
  rw [hf144, hf145, hf146, hf147, hf148, hf149, hf150, hf151, hf152, hf153, hf154]
  have Hv214 : Ev w [] wo211 [.box bk10 [.slice ta19 (List.length ((dcliM lq false false).2.1)) tc20, .bool ((dcliM lq false false).2.2.1), .bool ((dcliM lq false false).2.2.2)] 154, .vec oac25 occ26 1 (bys blc27) 5, .vec oad28 ocd29 1 (List.flatMap fU16 xsd30) 37, .vec oae31 oce32 2 (List.flatMap fExt xse33) 147, .grp (List.flatMap innExt xse33), .box bk1 (([uv16 hr143q0] : List Value) ++ ((bys hr143q1) ++ ([.slice hr143q2a hr143q2n hr143q2c, .slice hr143q3a hr143q3n hr143q3c, .slice hr143q4a hr143q4n hr143q4c] : List Value))) 75, .box bk46 (([uv16 xva23] : List Value) ++ ((bys alb24) ++ ([.slice oac25 (List.length blc27) occ26, .slice oad28 (List.length xsd30) ocd29, .slice oae31 (List.length xse33) oce32] : List Value))) 75, .vec none 0 1 (bys []) 5] := Ev.nil (sz := 1) (T := 5) Hv213
  have Hv215 : Ev w [] wo211 [.box bk10 [.slice ta19 (List.length ((dcliM lq false false).2.1)) tc20, .bool ((dcliM lq false false).2.2.1), .bool ((dcliM lq false false).2.2.2)] 154, .vec oac25 occ26 1 (bys blc27) 5, .vec oad28 ocd29 1 (List.flatMap fU16 xsd30) 37, .vec oae31 oce32 2 (List.flatMap fExt xse33) 147, .grp (List.flatMap innExt xse33), .box bk1 (([uv16 hr143q0] : List Value) ++ ((bys hr143q1) ++ ([.slice hr143q2a hr143q2n hr143q2c, .slice hr143q3a hr143q3n hr143q3c, .slice hr143q4a hr143q4n hr143q4c] : List Value))) 75, .box bk46 (([uv16 xva23] : List Value) ++ ((bys alb24) ++ ([.slice oac25 (List.length blc27) occ26, .slice oad28 (List.length xsd30) ocd29, .slice oae31 (List.length xse33) oce32] : List Value))) 75, .vec none 0 1 (bys []) 5, .vec none 0 1 (List.flatMap fU16 []) 37] := Ev.nil (sz := 1) (T := 37) Hv214
  have Hv216 : Ev w [] wo211 [.box bk10 [.slice ta19 (List.length ((dcliM lq false false).2.1)) tc20, .bool ((dcliM lq false false).2.2.1), .bool ((dcliM lq false false).2.2.2)] 154, .vec oac25 occ26 1 (bys blc27) 5, .vec oad28 ocd29 1 (List.flatMap fU16 xsd30) 37, .vec oae31 oce32 2 (List.flatMap fExt xse33) 147, .grp (List.flatMap innExt xse33), .box bk1 (([uv16 hr143q0] : List Value) ++ ((bys hr143q1) ++ ([.slice hr143q2a hr143q2n hr143q2c, .slice hr143q3a hr143q3n hr143q3c, .slice hr143q4a hr143q4n hr143q4c] : List Value))) 75, .box bk46 (([uv16 xva23] : List Value) ++ ((bys alb24) ++ ([.slice oac25 (List.length blc27) occ26, .slice oad28 (List.length xsd30) ocd29, .slice oae31 (List.length xse33) oce32] : List Value))) 75, .vec none 0 1 (bys []) 5, .vec none 0 1 (List.flatMap fU16 []) 37, .vec none 0 2 (List.flatMap fExt []) 147] := Ev.nil (sz := 2) (T := 147) Hv215
  have Hv217 : Ev w [] wo211 [.box bk10 [.slice ta19 (List.length ((dcliM lq false false).2.1)) tc20, .bool ((dcliM lq false false).2.2.1), .bool ((dcliM lq false false).2.2.2)] 154, .vec oac25 occ26 1 (bys blc27) 5, .vec oad28 ocd29 1 (List.flatMap fU16 xsd30) 37, .vec oae31 oce32 2 (List.flatMap fExt xse33) 147, .grp (List.flatMap innExt xse33), .box bk1 (([uv16 hr143q0] : List Value) ++ ((bys hr143q1) ++ ([.slice hr143q2a hr143q2n hr143q2c, .slice hr143q3a hr143q3n hr143q3c, .slice hr143q4a hr143q4n hr143q4c] : List Value))) 75, .box bk46 (([uv16 xva23] : List Value) ++ ((bys alb24) ++ ([.slice oac25 (List.length blc27) occ26, .slice oad28 (List.length xsd30) ocd29, .slice oae31 (List.length xse33) oce32] : List Value))) 75, .vec none 0 1 (bys []) 5, .vec none 0 1 (List.flatMap fU16 []) 37, .vec none 0 2 (List.flatMap fExt []) 147, .grp (List.flatMap innExt [])] := Ev.grp0 Hv216
  exact ⟨0, (List.replicate 32 0), none, 0, [], none, 0, [], none, 0, [], rfl, Hv217.pk [7, 8, 9, 10], rfl, List.length_replicate, (Nat.zero_le _), (Nat.zero_le _), (Nat.zero_le _), (fun y hy => by cases hy)⟩

theorem dgetserverhello_go (w : World) (aq : Option Addr) (nq cq : Nat) (lq : List UInt8) (eq : nq = List.length lq) (iq : InB w [] aq cq lq) : Calls Try.prog 71 #[.slice aq nq cq] w fun e w' => ∃ xva alb oac occ blc oad ocd xsd oae oce xse, e = .returned (.tuple #[.agg (List.toArray (([uv16 xva] : List Value) ++ ((bys alb) ++ ([.slice oac (List.length blc) occ, .slice oad (List.length xsd) ocd, .slice oae (List.length xse) oce] : List Value)))), .int .i64 (gotA (dsrvO lq false false))]) ∧ Ev w [] w' [.vec oac occ 1 (bys blc) 5, .vec oad ocd 1 (List.flatMap fU16 xsd) 37, .vec oae oce 2 (List.flatMap fExt xse) 147, .grp (List.flatMap innExt xse)] ∧ (xva, alb, blc, List.map (fun y : RU16 => y) xsd, List.map (fun y : RExt => (y.1, y.2.1.l)) xse) = gotV (0, (List.replicate 32 0), [], [], []) (dsrvO lq false false) ∧ List.length alb = 32 ∧ List.length blc ≤ 4294967296 ∧ List.length xsd ≤ 4294967296 ∧ List.length xse ≤ 4294967296 ∧ ∀ y ∈ xse, List.length y.2.1.l ≤ 140737488351232 := by
 subst eq
 refine d_0 [(0, .slice aq (List.length lq) cq)] 17 Go.Proofs.Try.func71 Go.Proofs.Try.ntmps71 (Heap.nil _) fun act0 En0 Hv0 => ?_
 refine wp_seq ?_
 refine region_from ?_
 refine f_o ?_
 refine m_z 75 (([.int .u16 0] : List Value) ++ ((bys (List.replicate 32 0)) ++ ([.slice none 0 0, .slice none 0 0, .slice none 0 0] : List Value))) En0 Hv0 fun ac2 wo3 bk1 En4 Hv5 => ?_
 refine d_e [0,2,3] [] En4 fun ac6 En7 => ?_
 refine then_normal ?_
 refine wp_seq ?_
 refine region_from ?_
 refine d_k [2,3,7] [] 2 En7 fun ac8 En9 => ?_
 refine f_o ?_
 refine m_m 154 [.slice aq (List.length lq) cq, .bool false, .bool false] En9 Hv5 fun ac11 wo12 bk10 En13 Hv14 => ?_
 refine d_e [2,3,4] [] En13 fun ac15 En16 => ?_
 refine then_normal ?_
 refine wp_seq ?_
 refine region_from ?_
 refine d_k [2,3,4,9] [] 1 En16 fun ac17 En18 => ?_
 refine f_o ?_
 refine c_l [1] (M := [.box bk10 [.slice aq (List.length lq) cq, .bool false, .bool false] 154]) En18 Hv14 (fun hM39 => dhellos_go _ bk10 aq cq lq false ((iq.ev Hv14).pick [1] (by kernel_rfl)) hM39) ?_
 rintro _ wo40 ⟨ta19, tc20, xva23, alb24, oac25, occ26, blc27, oad28, ocd29, xsd30, oae31, oce32, xse33, rfl, he41, hs21, hpu22, hf34, hf35, hf36, hf37, hf38⟩
 refine ⟨_, _, [.box bk10 [.slice ta19 (List.length ((dsrvM lq false).2.1)) tc20, .bool ((dsrvM lq false).2.2.1), .bool ((dsrvM lq false).2.2.2)] 154, .vec oac25 occ26 1 (bys blc27) 5, .vec oad28 ocd29 1 (List.flatMap fU16 xsd30) 37, .vec oae31 oce32 2 (List.flatMap fExt xse33) 147, .grp (List.flatMap innExt xse33), .box bk1 (([.int .u16 0] : List Value) ++ ((bys (List.replicate 32 0)) ++ ([.slice none 0 0, .slice none 0 0, .slice none 0 0] : List Value))) 75], rfl, he41, by kernel_rfl, fun ac43 En44 Hv45 => ?_⟩
 refine f_o ?_
 refine m_z 75 (([.int .u16 0] : List Value) ++ ((bys (List.replicate 32 0)) ++ ([.slice none 0 0, .slice none 0 0, .slice none 0 0] : List Value))) En44 Hv45 fun ac47 wo48 bk46 En49 Hv50 => ?_
 refine f_o ?_
 refine m_g 6 0 36 (([uv16 xva23] : List Value) ++ ((bys alb24) ++ ([.slice oac25 (List.length blc27) occ26, .slice oad28 (List.length xsd30) ocd29, .slice oae31 (List.length xse33) oce32] : List Value))) (([uv16 xva23] : List Value) ++ ((bys alb24) ++ ([.slice oac25 (List.length blc27) occ26, .slice oad28 (List.length xsd30) ocd29, .slice oae31 (List.length xse33) oce32] : List Value))) [.box bk10 [.slice ta19 (List.length ((dsrvM lq false).2.1)) tc20, .bool ((dsrvM lq false).2.2.1), .bool ((dsrvM lq false).2.2.2)] 154, .vec oac25 occ26 1 (bys blc27) 5, .vec oad28 ocd29 1 (List.flatMap fU16 xsd30) 37, .vec oae31 oce32 2 (List.flatMap fExt xse33) 147, .grp (List.flatMap innExt xse33), .box bk1 (([.int .u16 0] : List Value) ++ ((bys (List.replicate 32 0)) ++ ([.slice none 0 0, .slice none 0 0, .slice none 0 0] : List Value))) 75, .box bk46 (([uv16 xva23] : List Value) ++ ((bys alb24) ++ ([.slice oac25 (List.length blc27) occ26, .slice oad28 (List.length xsd30) ocd29, .slice oae31 (List.length xse33) oce32] : List Value))) 75] En49 Hv50 rfl (len_app rfl (len_app (bys_lenh (by assumption)) rfl)) (by rw [(len_app rfl (len_app (bys_lenh (List.length_replicate)) rfl))]; first | decide | (simp; done)) (one_app (one_all (by kernel_rfl)) (one_app (bys_one _) (one_all (by kernel_rfl)))) (store_whole (len_app rfl (len_app (bys_lenh (List.length_replicate)) rfl))) rfl fun ac51 wo52 En53 Hv54 => ?_
 refine f_e ?_
 refine then_normal ?_
 refine wp_seq ?_
 refine r_c (fun ac wo => ∃ (hr143q0 : _) (hr143q1 : _) (hr143q2a : _) (hr143q2n : _) (hr143q2c : _) (hr143q3a : _) (hr143q3n : _) (hr143q3c : _) (hr143q4a : _) (hr143q4n : _) (hr143q4c : _), Env ac 17 [(2, pt bk1), (3, .int .i64 (endV ((dsrvM lq false).2.2.1) (List.length ((dsrvM lq false).2.1)) ((dsrvM lq false).2.2.2))), (4, pt bk10), (5, pt bk46)] ∧ Ev w [] wo [.box bk10 [.slice ta19 (List.length ((dsrvM lq false).2.1)) tc20, .bool ((dsrvM lq false).2.2.1), .bool ((dsrvM lq false).2.2.2)] 154, .vec oac25 occ26 1 (bys blc27) 5, .vec oad28 ocd29 1 (List.flatMap fU16 xsd30) 37, .vec oae31 oce32 2 (List.flatMap fExt xse33) 147, .grp (List.flatMap innExt xse33), .box bk1 (([uv16 hr143q0] : List Value) ++ ((bys hr143q1) ++ ([.slice hr143q2a hr143q2n hr143q2c, .slice hr143q3a hr143q3n hr143q3c, .slice hr143q4a hr143q4n hr143q4c] : List Value))) 75, .box bk46 (([uv16 xva23] : List Value) ++ ((bys alb24) ++ ([.slice oac25 (List.length blc27) occ26, .slice oad28 (List.length xsd30) ocd29, .slice oae31 (List.length xse33) oce32] : List Value))) 75] ∧ (hr143q0 = (if (endV ((dsrvM lq false).2.2.1) (List.length ((dsrvM lq false).2.1)) ((dsrvM lq false).2.2.2)) = 0 then xva23 else 0)) ∧ (hr143q1 = (if (endV ((dsrvM lq false).2.2.1) (List.length ((dsrvM lq false).2.1)) ((dsrvM lq false).2.2.2)) = 0 then alb24 else (List.replicate 32 0))) ∧ (hr143q2a = (if (endV ((dsrvM lq false).2.2.1) (List.length ((dsrvM lq false).2.1)) ((dsrvM lq false).2.2.2)) = 0 then oac25 else none)) ∧ (hr143q2n = (if (endV ((dsrvM lq false).2.2.1) (List.length ((dsrvM lq false).2.1)) ((dsrvM lq false).2.2.2)) = 0 then (List.length blc27) else 0)) ∧ (hr143q2c = (if (endV ((dsrvM lq false).2.2.1) (List.length ((dsrvM lq false).2.1)) ((dsrvM lq false).2.2.2)) = 0 then occ26 else 0)) ∧ (hr143q3a = (if (endV ((dsrvM lq false).2.2.1) (List.length ((dsrvM lq false).2.1)) ((dsrvM lq false).2.2.2)) = 0 then oad28 else none)) ∧ (hr143q3n = (if (endV ((dsrvM lq false).2.2.1) (List.length ((dsrvM lq false).2.1)) ((dsrvM lq false).2.2.2)) = 0 then (List.length xsd30) else 0)) ∧ (hr143q3c = (if (endV ((dsrvM lq false).2.2.1) (List.length ((dsrvM lq false).2.1)) ((dsrvM lq false).2.2.2)) = 0 then ocd29 else 0)) ∧ (hr143q4a = (if (endV ((dsrvM lq false).2.2.1) (List.length ((dsrvM lq false).2.1)) ((dsrvM lq false).2.2.2)) = 0 then oae31 else none)) ∧ (hr143q4n = (if (endV ((dsrvM lq false).2.2.1) (List.length ((dsrvM lq false).2.1)) ((dsrvM lq false).2.2.2)) = 0 then (List.length xse33) else 0)) ∧ (hr143q4c = (if (endV ((dsrvM lq false).2.2.1) (List.length ((dsrvM lq false).2.1)) ((dsrvM lq false).2.2.2)) = 0 then oce32 else 0)) ∧ (List.length hr143q1 = 32)) ?_ ?_
 ·
  refine h_s (fun wv => Ev w [] wv [.box bk46 (([uv16 xva23] : List Value) ++ ((bys alb24) ++ ([.slice oac25 (List.length blc27) occ26, .slice oad28 (List.length xsd30) ocd29, .slice oae31 (List.length xse33) oce32] : List Value))) 75]) [] 8 ?_
  have wo55 := Hv54.trans (Ev.drew Hv54.heap)
  refine q_r 0 (s := Instr.loadAt 75 (pt bk46)) (v := .agg (List.toArray (([uv16 xva23] : List Value) ++ ((bys alb24) ++ ([.slice oac25 (List.length blc27) occ26, .slice oad28 (List.length xsd30) ocd29, .slice oae31 (List.length xse33) oce32] : List Value))))) En53 (fun w hS => run_loadAgg2 (m := 36) (cs := ([uv16 xva23] : List Value) ++ ((bys alb24) ++ ([.slice oac25 (List.length blc27) occ26, .slice oad28 (List.length xsd30) ocd29, .slice oae31 (List.length xse33) oce32] : List Value))) (len_app rfl (len_app (bys_lenh (by assumption)) rfl)) (by kernel_rfl) (by kernel_rfl) (hS.heap.cells (k := 0) (off := 0) (m := 36) rfl (load_whole (len_app rfl (len_app (bys_lenh (by assumption)) rfl))))) (wo55.pk [6]) fun ac171 En172 => ?_
  refine q_s [1] [] 6 En172 (wo55.pk [6]) fun ac173 En174 => ?_
  refine q_t 2 ?_
  refine c_l [0] (M := [.box bk10 [.slice ta19 (List.length ((dsrvM lq false).2.1)) tc20, .bool ((dsrvM lq false).2.2.1), .bool ((dsrvM lq false).2.2.2)] 154]) En174 wo55 (fun hM175 => dend_go _ bk10 ta19 (List.length ((dsrvM lq false).2.1)) tc20 ((dsrvM lq false).2.2.1) ((dsrvM lq false).2.2.2) hM175) ?_
  rintro _ wo176 ⟨rfl, he177⟩
  refine ⟨_, _, [.box bk10 [.slice ta19 (List.length ((dsrvM lq false).2.1)) tc20, .bool ((dsrvM lq false).2.2.1), .bool ((dsrvM lq false).2.2.2)] 154, .vec oac25 occ26 1 (bys blc27) 5, .vec oad28 ocd29 1 (List.flatMap fU16 xsd30) 37, .vec oae31 oce32 2 (List.flatMap fExt xse33) 147, .grp (List.flatMap innExt xse33), .box bk1 (([.int .u16 0] : List Value) ++ ((bys (List.replicate 32 0)) ++ ([.slice none 0 0, .slice none 0 0, .slice none 0 0] : List Value))) 75, .box bk46 (([uv16 xva23] : List Value) ++ ((bys alb24) ++ ([.slice oac25 (List.length blc27) occ26, .slice oad28 (List.length xsd30) ocd29, .slice oae31 (List.length xse33) oce32] : List Value))) 75], rfl, he177, by kernel_rfl, fun ac179 En180 Hv181 => ?_⟩
  refine ⟨fun _ => Hv181.pk [6], ?_⟩
  refine q_t 3 ?_
  refine c_0 En180 Hv181 (hellos_go _ xva23 alb24 oac25 (List.length blc27) occ26 oad28 (List.length xsd30) ocd29 oae31 (List.length xse33) oce32 (by assumption) (endV ((dsrvM lq false).2.2.1) (List.length ((dsrvM lq false).2.1)) ((dsrvM lq false).2.2.2))) ?_
  rintro _ wo196 ⟨hr182q0, hr182q1, hr182q2a, hr182q2n, hr182q2c, hr182q3a, hr182q3n, hr182q3c, hr182q4a, hr182q4n, hr182q4c, rfl, he197, hf183, hf184, hf185, hf186, hf187, hf188, hf189, hf190, hf191, hf192, hf193, hf194⟩
  refine ⟨_, _, _, rfl, he197, rfl, fun ac199 En200 Hv201 => ?_⟩
  refine ⟨fun _ => Hv201.pk [6], ?_⟩
  refine q_s [4,5] [] 2 En200 (Hv201.pk [6]) fun ac202 En203 => ?_
  refine q_t 6 ?_
  refine m_g 5 0 36 (([uv16 hr182q0] : List Value) ++ ((bys hr182q1) ++ ([.slice hr182q2a hr182q2n hr182q2c, .slice hr182q3a hr182q3n hr182q3c, .slice hr182q4a hr182q4n hr182q4c] : List Value))) (([uv16 hr182q0] : List Value) ++ ((bys hr182q1) ++ ([.slice hr182q2a hr182q2n hr182q2c, .slice hr182q3a hr182q3n hr182q3c, .slice hr182q4a hr182q4n hr182q4c] : List Value))) [.box bk10 [.slice ta19 (List.length ((dsrvM lq false).2.1)) tc20, .bool ((dsrvM lq false).2.2.1), .bool ((dsrvM lq false).2.2.2)] 154, .vec oac25 occ26 1 (bys blc27) 5, .vec oad28 ocd29 1 (List.flatMap fU16 xsd30) 37, .vec oae31 oce32 2 (List.flatMap fExt xse33) 147, .grp (List.flatMap innExt xse33), .box bk1 (([uv16 hr182q0] : List Value) ++ ((bys hr182q1) ++ ([.slice hr182q2a hr182q2n hr182q2c, .slice hr182q3a hr182q3n hr182q3c, .slice hr182q4a hr182q4n hr182q4c] : List Value))) 75, .box bk46 (([uv16 xva23] : List Value) ++ ((bys alb24) ++ ([.slice oac25 (List.length blc27) occ26, .slice oad28 (List.length xsd30) ocd29, .slice oae31 (List.length xse33) oce32] : List Value))) 75] En203 Hv201 rfl (len_app rfl (len_app (bys_lenh (by assumption)) rfl)) (by rw [(len_app rfl (len_app (bys_lenh (List.length_replicate)) rfl))]; first | decide | (simp; done)) (one_app (one_all (by kernel_rfl)) (one_app (bys_one _) (one_all (by kernel_rfl)))) (store_whole (len_app rfl (len_app (bys_lenh (List.length_replicate)) rfl))) rfl fun ac204 wo205 En206 Hv207 => ?_
  refine ⟨fun _ => Hv207.pk [6], ?_⟩
  refine q_s [7] [] 0 En206 (Hv207.pk [6]) fun ac208 En209 => ?_
  exact h_e ⟨hr182q0, hr182q1, hr182q2a, hr182q2n, hr182q2c, hr182q3a, hr182q3n, hr182q3c, hr182q4a, hr182q4n, hr182q4c, En209.sb, Hv207.pk [0, 1, 2, 3, 4, 5, 6], hf183, hf184, hf185, hf186, hf187, hf188, hf189, hf190, hf191, hf192, hf193, hf194⟩
 rintro ac210 wo211 ⟨hr143q0, hr143q1, hr143q2a, hr143q2n, hr143q2c, hr143q3a, hr143q3n, hr143q3c, hr143q4a, hr143q4n, hr143q4c, En212, Hv213, hf144, hf145, hf146, hf147, hf148, hf149, hf150, hf151, hf152, hf153, hf154, hf155⟩
 refine then_normal ?_
 refine wp_ret ?_
 refine d_cell_tmp (v := .agg (List.toArray (([uv16 hr143q0] : List Value) ++ ((bys hr143q1) ++ ([.slice hr143q2a hr143q2n hr143q2c, .slice hr143q3a hr143q3n hr143q3c, .slice hr143q4a hr143q4n hr143q4c] : List Value))))) (x := .int .i64 (endV ((dsrvM lq false).2.2.1) (List.length ((dsrvM lq false).2.1)) ((dsrvM lq false).2.2.2))) (t := 2) (T := 75) (ad := ⟨bk1, 0, none⟩) (u := 3) En212 (by kernel_rfl) (by kernel_rfl) (Ev.cellAgg (t := 75) (k := 5) (off := 0) (m := 36) (xs := ([uv16 hr143q0] : List Value) ++ ((bys hr143q1) ++ ([.slice hr143q2a hr143q2n hr143q2c, .slice hr143q3a hr143q3n hr143q3c, .slice hr143q4a hr143q4n hr143q4c] : List Value))) Hv213 rfl (load_whole (len_app rfl (len_app (bys_lenh (by assumption)) rfl))) (len_app rfl (len_app (bys_lenh (by assumption)) rfl)) (by kernel_rfl) (by kernel_rfl)) (by kernel_rfl) ?_
 have eA : gotA (dsrvO lq false false) = endV ((dsrvM lq false).2.2.1) (List.length ((dsrvM lq false).2.1)) ((dsrvM lq false).2.2.2) := rfl
 by_cases hk : endV ((dsrvM lq false).2.2.1) (List.length ((dsrvM lq false).2.1)) ((dsrvM lq false).2.2.2) = 0
 ·
  rw [gotV_0 (eA.trans hk), eA]
  rw [if_pos hk] at hf144
  rw [if_pos hk] at hf145
  rw [if_pos hk] at hf146
  rw [if_pos hk] at hf147
  rw [if_pos hk] at hf148
  rw [if_pos hk] at hf149
  rw [if_pos hk] at hf150
  rw [if_pos hk] at hf151
  rw [if_pos hk] at hf152
  rw [if_pos hk] at hf153
  rw [if_pos hk] at hf154
  rw [hf144, hf145, hf146, hf147, hf148, hf149, hf150, hf151, hf152, hf153, hf154]
  exact ⟨xva23, alb24, oac25, occ26, blc27, oad28, ocd29, xsd30, oae31, oce32, xse33, rfl, Hv213.pk [1, 2, 3, 4], hpu22, hf34, hf35, hf36, hf37, hf38⟩
 ·
  rw [gotV_n eA hk, eA]
  rw [if_neg hk] at hf144
  rw [if_neg hk] at hf145
  rw [if_neg hk] at hf146
  rw [if_neg hk] at hf147
  rw [if_neg hk] at hf148
  rw [if_neg hk] at hf149
  rw [if_neg hk] at hf150
  rw [if_neg hk] at hf151
  rw [if_neg hk] at hf152
  rw [if_neg hk] at hf153
  rw [if_neg hk] at hf154
  rw [hf144, hf145, hf146, hf147, hf148, hf149, hf150, hf151, hf152, hf153, hf154]
  have Hv214 : Ev w [] wo211 [.box bk10 [.slice ta19 (List.length ((dsrvM lq false).2.1)) tc20, .bool ((dsrvM lq false).2.2.1), .bool ((dsrvM lq false).2.2.2)] 154, .vec oac25 occ26 1 (bys blc27) 5, .vec oad28 ocd29 1 (List.flatMap fU16 xsd30) 37, .vec oae31 oce32 2 (List.flatMap fExt xse33) 147, .grp (List.flatMap innExt xse33), .box bk1 (([uv16 hr143q0] : List Value) ++ ((bys hr143q1) ++ ([.slice hr143q2a hr143q2n hr143q2c, .slice hr143q3a hr143q3n hr143q3c, .slice hr143q4a hr143q4n hr143q4c] : List Value))) 75, .box bk46 (([uv16 xva23] : List Value) ++ ((bys alb24) ++ ([.slice oac25 (List.length blc27) occ26, .slice oad28 (List.length xsd30) ocd29, .slice oae31 (List.length xse33) oce32] : List Value))) 75, .vec none 0 1 (bys []) 5] := Ev.nil (sz := 1) (T := 5) Hv213
  have Hv215 : Ev w [] wo211 [.box bk10 [.slice ta19 (List.length ((dsrvM lq false).2.1)) tc20, .bool ((dsrvM lq false).2.2.1), .bool ((dsrvM lq false).2.2.2)] 154, .vec oac25 occ26 1 (bys blc27) 5, .vec oad28 ocd29 1 (List.flatMap fU16 xsd30) 37, .vec oae31 oce32 2 (List.flatMap fExt xse33) 147, .grp (List.flatMap innExt xse33), .box bk1 (([uv16 hr143q0] : List Value) ++ ((bys hr143q1) ++ ([.slice hr143q2a hr143q2n hr143q2c, .slice hr143q3a hr143q3n hr143q3c, .slice hr143q4a hr143q4n hr143q4c] : List Value))) 75, .box bk46 (([uv16 xva23] : List Value) ++ ((bys alb24) ++ ([.slice oac25 (List.length blc27) occ26, .slice oad28 (List.length xsd30) ocd29, .slice oae31 (List.length xse33) oce32] : List Value))) 75, .vec none 0 1 (bys []) 5, .vec none 0 1 (List.flatMap fU16 []) 37] := Ev.nil (sz := 1) (T := 37) Hv214
  have Hv216 : Ev w [] wo211 [.box bk10 [.slice ta19 (List.length ((dsrvM lq false).2.1)) tc20, .bool ((dsrvM lq false).2.2.1), .bool ((dsrvM lq false).2.2.2)] 154, .vec oac25 occ26 1 (bys blc27) 5, .vec oad28 ocd29 1 (List.flatMap fU16 xsd30) 37, .vec oae31 oce32 2 (List.flatMap fExt xse33) 147, .grp (List.flatMap innExt xse33), .box bk1 (([uv16 hr143q0] : List Value) ++ ((bys hr143q1) ++ ([.slice hr143q2a hr143q2n hr143q2c, .slice hr143q3a hr143q3n hr143q3c, .slice hr143q4a hr143q4n hr143q4c] : List Value))) 75, .box bk46 (([uv16 xva23] : List Value) ++ ((bys alb24) ++ ([.slice oac25 (List.length blc27) occ26, .slice oad28 (List.length xsd30) ocd29, .slice oae31 (List.length xse33) oce32] : List Value))) 75, .vec none 0 1 (bys []) 5, .vec none 0 1 (List.flatMap fU16 []) 37, .vec none 0 2 (List.flatMap fExt []) 147] := Ev.nil (sz := 2) (T := 147) Hv215
  have Hv217 : Ev w [] wo211 [.box bk10 [.slice ta19 (List.length ((dsrvM lq false).2.1)) tc20, .bool ((dsrvM lq false).2.2.1), .bool ((dsrvM lq false).2.2.2)] 154, .vec oac25 occ26 1 (bys blc27) 5, .vec oad28 ocd29 1 (List.flatMap fU16 xsd30) 37, .vec oae31 oce32 2 (List.flatMap fExt xse33) 147, .grp (List.flatMap innExt xse33), .box bk1 (([uv16 hr143q0] : List Value) ++ ((bys hr143q1) ++ ([.slice hr143q2a hr143q2n hr143q2c, .slice hr143q3a hr143q3n hr143q3c, .slice hr143q4a hr143q4n hr143q4c] : List Value))) 75, .box bk46 (([uv16 xva23] : List Value) ++ ((bys alb24) ++ ([.slice oac25 (List.length blc27) occ26, .slice oad28 (List.length xsd30) ocd29, .slice oae31 (List.length xse33) oce32] : List Value))) 75, .vec none 0 1 (bys []) 5, .vec none 0 1 (List.flatMap fU16 []) 37, .vec none 0 2 (List.flatMap fExt []) 147, .grp (List.flatMap innExt [])] := Ev.grp0 Hv216
  exact ⟨0, (List.replicate 32 0), none, 0, [], none, 0, [], none, 0, [], rfl, Hv217.pk [7, 8, 9, 10], rfl, List.length_replicate, (Nat.zero_le _), (Nat.zero_le _), (Nat.zero_le _), (fun y hy => by cases hy)⟩

theorem samehello_go (w : World) (pa : UInt16) (pb : List UInt8) (a_pc : Option Addr) (c_pc : Nat) (pc : List UInt8) (a_pd : Option Addr) (c_pd : Nat) (pd : List (UInt16)) (a_pe : Option Addr) (c_pe : Nat) (pe : List ((UInt16) × (Sl UInt8) × Unit)) (qa : UInt16) (qb : List UInt8) (a_qc : Option Addr) (c_qc : Nat) (qc : List UInt8) (a_qd : Option Addr) (c_qd : Nat) (qd : List (UInt16)) (a_qe : Option Addr) (c_qe : Nat) (qe : List ((UInt16) × (Sl UInt8) × Unit)) (n_pb : (List.length pb = 32)) (i_pc : InB w [] a_pc c_pc pc) (i_pd : InS (fun n : UInt16 => [uv16 n]) 2 (fun x : UInt16 => True) w [] a_pd c_pd pd) (i_pe : InS (fun p : (UInt16) × (Sl UInt8) × Unit => (fun n : UInt16 => [uv16 n]) p.1 ++ (fun p : (Sl UInt8) × Unit => (fun s : Sl UInt8 => s.f) p.1 ++ (fun _ : Unit => []) p.2) p.2) 32 (fun x : (UInt16) × (Sl UInt8) × Unit => (True ∧ (InB w [] x.2.1.a x.2.1.c x.2.1.l ∧ (True)))) w [] a_pe c_pe pe) (n_qb : (List.length qb = 32)) (i_qc : InB w [] a_qc c_qc qc) (i_qd : InS (fun n : UInt16 => [uv16 n]) 2 (fun x : UInt16 => True) w [] a_qd c_qd qd) (i_qe : InS (fun p : (UInt16) × (Sl UInt8) × Unit => (fun n : UInt16 => [uv16 n]) p.1 ++ (fun p : (Sl UInt8) × Unit => (fun s : Sl UInt8 => s.f) p.1 ++ (fun _ : Unit => []) p.2) p.2) 32 (fun x : (UInt16) × (Sl UInt8) × Unit => (True ∧ (InB w [] x.2.1.a x.2.1.c x.2.1.l ∧ (True)))) w [] a_qe c_qe qe) : Calls Try.prog 69 #[.agg (List.toArray (([uv16 pa] : List Value) ++ ((bys pb) ++ ([.slice a_pc (List.length pc) c_pc, .slice a_pd (List.length pd) c_pd, .slice a_pe (List.length pe) c_pe] : List Value)))), .agg (List.toArray (([uv16 qa] : List Value) ++ ((bys qb) ++ ([.slice a_qc (List.length qc) c_qc, .slice a_qd (List.length qd) c_qd, .slice a_qe (List.length qe) c_qe] : List Value))))] w fun e w' => e = .returned (.bool ((pa, pb, pc, List.map (fun y : RU16 => y) pd, List.map (fun y : RExt => (y.1, y.2.1.l)) pe) == (qa, qb, qc, List.map (fun y : RU16 => y) qd, List.map (fun y : RExt => (y.1, y.2.1.l)) qe))) ∧ Ev w [] w' [] := by
 refine d_0 [(0, .agg (List.toArray (([uv16 pa] : List Value) ++ ((bys pb) ++ ([.slice a_pc (List.length pc) c_pc, .slice a_pd (List.length pd) c_pd, .slice a_pe (List.length pe) c_pe] : List Value))))), (1, .agg (List.toArray (([uv16 qa] : List Value) ++ ((bys qb) ++ ([.slice a_qc (List.length qc) c_qc, .slice a_qd (List.length qd) c_qd, .slice a_qe (List.length qe) c_qe] : List Value)))))] 40 Go.Proofs.Try.func69 Go.Proofs.Try.ntmps69 (Heap.nil _) fun act0 En0 Hv0 => ?_
 refine wp_seq ?_
 refine region_from ?_
 refine f_o ?_
 refine m_m 75 (([uv16 pa] : List Value) ++ ((bys pb) ++ ([.slice a_pc (List.length pc) c_pc, .slice a_pd (List.length pd) c_pd, .slice a_pe (List.length pe) c_pe] : List Value))) En0 Hv0 fun ac2 wo3 bk1 En4 Hv5 => ?_
 refine f_o ?_
 refine m_m 75 (([uv16 qa] : List Value) ++ ((bys qb) ++ ([.slice a_qc (List.length qc) c_qc, .slice a_qd (List.length qd) c_qd, .slice a_qe (List.length qe) c_qe] : List Value))) En4 Hv5 fun ac7 wo8 bk6 En9 Hv10 => ?_
 refine d_e [2,3,4] [] En9 fun ac11 En12 => ?_
 refine then_normal ?_
 refine wp_seq ?_
 refine region_from ?_
 refine d_k [2,3,4,5] [] 1 En12 fun ac13 En14 => ?_
 refine f_o ?_
 refine m_v 0 0 (uv16 pa) En14 Hv10 rfl (seg_in rfl) fun ac15 En16 => ?_
 refine d_k [2,3,4,6,7] [] 3 En16 fun ac17 En18 => ?_
 refine f_o ?_
 refine m_v 1 0 (uv16 qa) En18 Hv10 rfl (seg_in rfl) fun ac19 En20 => ?_
 refine d_k [2,3,4,10] [] 6 En20 fun ac21 En22 => ?_
 rcases Bool.eq_false_or_eq_true (((UInt16.toNat pa : Nat) : Int) == ((UInt16.toNat qa : Nat) : Int)) with hb23 | hb23
 ·
  have En24 := En22.fx (t := 10) (congrArg Value.bool hb23)
  have hp25 : ((UInt16.toNat pa : Nat) : Int) = ((UInt16.toNat qa : Nat) : Int) := eq_of_beq hb23
  refine d_k [2,3,4,10,11] [] 7 En24 fun ac26 En27 => ?_
  refine f_o ?_
  refine m_a 0 1 32 (bys pb) En27 Hv10 rfl (by simp [bys_lenh n_pb, List.drop_append, List.take_append]) (bys_lenh n_pb) fun ac28 En29 => ?_
  refine d_k [2,3,4,10,12,13] [] 9 En29 fun ac30 En31 => ?_
  refine f_o ?_
  refine m_a 1 1 32 (bys qb) En31 Hv10 rfl (by simp [bys_lenh n_qb, List.drop_append, List.take_append]) (bys_lenh n_qb) fun ac32 En33 => ?_
  refine f_o ?_
  refine q_v (x := eqOp .eql 29 (.tmp 12) (.tmp 14) (.agg (List.toArray (bys pb))) (.agg (List.toArray (bys qb)))) (v := .bool (pb == qb)) En33 (Go.Dbr.bys_eqop (a := (.tmp 12)) (b := (.tmp 14)) (e := 5) (m := 32) (by kernel_rfl) (by kernel_rfl) (by kernel_rfl) (by kernel_rfl) (by kernel_rfl) n_pb n_qb _) fun ac34 En35 => ?_
  refine d_k [2,3,4,17] [] 13 En35 fun ac36 En37 => ?_
  rcases Bool.eq_false_or_eq_true (pb == qb) with hb38 | hb38
  ·
   have En39 := En37.fx (t := 17) (congrArg Value.bool hb38)
   have hp40 : pb = qb := eq_of_beq hb38
   refine d_k [2,3,4,17,18] [] 14 En39 fun ac41 En42 => ?_
   refine f_o ?_
   refine m_v 0 33 (.slice a_pc (List.length pc) c_pc) En42 Hv10 rfl (seg_skip (n := 1) (j := 32) rfl (seg_skip (n := 32) (j := 0) (bys_lenh n_pb) rfl)) fun ac43 En44 => ?_
   refine f_o ?_
   refine op_str (d := some 20) (src := 23) (dst := 9) (e := 5) (ao := a_pc) (cap := c_pc) (p := List.length pc) (bs := pc) En44 (by kernel_rfl) rfl (by kernel_rfl) (by kernel_rfl) (by kernel_rfl) (i_pc.ev Hv10).reads i_pc.nz ?_
   intro ac45 En46
   refine d_k [2,3,4,17,20,21] [] 17 En46 fun ac47 En48 => ?_
   refine f_o ?_
   refine m_v 1 33 (.slice a_qc (List.length qc) c_qc) En48 Hv10 rfl (seg_skip (n := 1) (j := 32) rfl (seg_skip (n := 32) (j := 0) (bys_lenh n_qb) rfl)) fun ac49 En50 => ?_
   refine f_o ?_
   refine op_str (d := some 23) (src := 23) (dst := 9) (e := 5) (ao := a_qc) (cap := c_qc) (p := List.length qc) (bs := qc) En50 (by kernel_rfl) rfl (by kernel_rfl) (by kernel_rfl) (by kernel_rfl) (i_qc.ev Hv10).reads i_qc.nz ?_
   intro ac51 En52
   refine d_k [2,3,4,26] [(19, g_v (show (.bool (ByteArray.toList (bstr pc) == ByteArray.toList (bstr qc)) : Value) = .bool (pc == qc) by rw [Go.Dbr.bstr_eq pc qc] <;> rfl))] 22 En52 fun ac53 En54 => ?_
   rcases Bool.eq_false_or_eq_true (pc == qc) with hb55 | hb55
   ·
    have En56 := En54.fx (t := 26) (congrArg Value.bool hb55)
    have hp57 : pc = qc := eq_of_beq hb55
    refine d_k [2,3,4,26,27] [] 23 En56 fun ac58 En59 => ?_
    refine f_o ?_
    refine m_v 0 34 (.slice a_pd (List.length pd) c_pd) En59 Hv10 rfl (seg_skip (n := 1) (j := 33) rfl (seg_skip (n := 32) (j := 1) (bys_lenh n_pb) rfl)) fun ac60 En61 => ?_
    refine d_k [2,3,4,26,28,29] [] 25 En61 fun ac62 En63 => ?_
    refine f_o ?_
    refine m_v 1 34 (.slice a_qd (List.length qd) c_qd) En63 Hv10 rfl (seg_skip (n := 1) (j := 33) rfl (seg_skip (n := 32) (j := 1) (bys_lenh n_qb) rfl)) fun ac64 En65 => ?_
    refine f_o ?_
    refine c_p En65 Hv10 (samenum_go _ a_pd c_pd pd (i_pd.go Hv10 [] (by kernel_rfl) (fun _ h => h)) a_qd c_qd qd (i_qd.go Hv10 [] (by kernel_rfl) (fun _ h => h))) fun ac70 wo67 En71 Hv72 => ?_
    refine d_k [2,3,4,33] [] 29 En71 fun ac73 En74 => ?_
    rcases Bool.eq_false_or_eq_true ((List.map (fun y : RU16 => y) pd == List.map (fun y : RU16 => y) qd)) with hb75 | hb75
    ·
     have En76 := En74.fx (t := 33) (congrArg Value.bool hb75)
     have hp77 : List.map (fun y : RU16 => y) pd = List.map (fun y : RU16 => y) qd := by simpa using hb75
     refine d_k [3,4,33,34] [] 30 En76 fun ac78 En79 => ?_
     refine f_o ?_
     refine m_v 0 35 (.slice a_pe (List.length pe) c_pe) En79 Hv72 rfl (seg_skip (n := 1) (j := 34) rfl (seg_skip (n := 32) (j := 2) (bys_lenh n_pb) rfl)) fun ac80 En81 => ?_
     refine d_k [4,33,35,36] [] 32 En81 fun ac82 En83 => ?_
     refine f_o ?_
     refine m_v 1 35 (.slice a_qe (List.length qe) c_qe) En83 Hv72 rfl (seg_skip (n := 1) (j := 34) rfl (seg_skip (n := 32) (j := 2) (bys_lenh n_qb) rfl)) fun ac84 En85 => ?_
     refine f_o ?_
     refine c_p En85 Hv72 (sameext_go _ a_pe c_pe pe (i_pe.go Hv72 [] (by kernel_rfl) (fun _ h => ⟨h.1, (InB.ev h.2.1 Hv72).pick [] (by kernel_rfl), h.2.2⟩)) a_qe c_qe qe (i_qe.go Hv72 [] (by kernel_rfl) (fun _ h => ⟨h.1, (InB.ev h.2.1 Hv72).pick [] (by kernel_rfl), h.2.2⟩))) fun ac90 wo87 En91 Hv92 => ?_
     refine d_e [4] [] En91 fun ac93 En94 => ?_
     refine then_normal ?_
     refine wp_ret ?_
     refine d_ret1 (t := 4) (v := .bool (List.map (fun y : RExt => (y.1, y.2.1.l)) pe == List.map (fun y : RExt => (y.1, y.2.1.l)) qe)) En94 (by kernel_rfl) (by kernel_rfl) ?_
     exact ⟨congrArg (fun b => Ending.returned (Value.bool b)) (tup5 (u16_eq (by assumption)) (by assumption) (by assumption) (by assumption)), Hv92.pk []⟩
    ·
     have En95 := En74.fx (t := 33) (congrArg Value.bool hb75)
     have hp96 : ¬ (List.map (fun y : RU16 => y) pd = List.map (fun y : RU16 => y) qd) := by simpa using hb75
     refine d_e [4] [] En95 fun ac97 En98 => ?_
     refine then_normal ?_
     refine wp_ret ?_
     refine d_ret1 (t := 4) (v := .bool false) En98 (by kernel_rfl) (by kernel_rfl) ?_
     refine ⟨congrArg (fun b => Ending.returned (Value.bool b)) (tup_no fun g => ?_), Hv72.pk []⟩
     simp only [Prod.mk.injEq] at g
     obtain ⟨g1, g2, g3, g4, g5⟩ := g
     first | exact absurd (congrArg (fun z : UInt16 => ((UInt16.toNat z : Nat) : Int)) g1) (by assumption) | exact absurd g2 (by assumption) | exact absurd g3 (by assumption) | exact absurd g4 (by assumption)
   ·
    have En99 := En54.fx (t := 26) (congrArg Value.bool hb55)
    have hp100 : ¬ (pc = qc) := ne_of_beq_false hb55
    refine d_e [4] [] En99 fun ac101 En102 => ?_
    refine then_normal ?_
    refine wp_ret ?_
    refine d_ret1 (t := 4) (v := .bool false) En102 (by kernel_rfl) (by kernel_rfl) ?_
    refine ⟨congrArg (fun b => Ending.returned (Value.bool b)) (tup_no fun g => ?_), Hv10.pk []⟩
    simp only [Prod.mk.injEq] at g
    obtain ⟨g1, g2, g3, g4, g5⟩ := g
    first | exact absurd (congrArg (fun z : UInt16 => ((UInt16.toNat z : Nat) : Int)) g1) (by assumption) | exact absurd g2 (by assumption) | exact absurd g3 (by assumption) | exact absurd g4 (by assumption)
  ·
   have En103 := En37.fx (t := 17) (congrArg Value.bool hb38)
   have hp104 : ¬ (pb = qb) := ne_of_beq_false hb38
   refine d_e [4] [] En103 fun ac105 En106 => ?_
   refine then_normal ?_
   refine wp_ret ?_
   refine d_ret1 (t := 4) (v := .bool false) En106 (by kernel_rfl) (by kernel_rfl) ?_
   refine ⟨congrArg (fun b => Ending.returned (Value.bool b)) (tup_no fun g => ?_), Hv10.pk []⟩
   simp only [Prod.mk.injEq] at g
   obtain ⟨g1, g2, g3, g4, g5⟩ := g
   first | exact absurd (congrArg (fun z : UInt16 => ((UInt16.toNat z : Nat) : Int)) g1) (by assumption) | exact absurd g2 (by assumption) | exact absurd g3 (by assumption) | exact absurd g4 (by assumption)
 ·
  have En107 := En22.fx (t := 10) (congrArg Value.bool hb23)
  have hp108 : ¬ (((UInt16.toNat pa : Nat) : Int) = ((UInt16.toNat qa : Nat) : Int)) := ne_of_beq_false hb23
  refine d_e [4] [] En107 fun ac109 En110 => ?_
  refine then_normal ?_
  refine wp_ret ?_
  refine d_ret1 (t := 4) (v := .bool false) En110 (by kernel_rfl) (by kernel_rfl) ?_
  refine ⟨congrArg (fun b => Ending.returned (Value.bool b)) (tup_no fun g => ?_), Hv10.pk []⟩
  simp only [Prod.mk.injEq] at g
  obtain ⟨g1, g2, g3, g4, g5⟩ := g
  first | exact absurd (congrArg (fun z : UInt16 => ((UInt16.toNat z : Nat) : Int)) g1) (by assumption) | exact absurd g2 (by assumption) | exact absurd g3 (by assumption) | exact absurd g4 (by assumption)

end Go.Proofs.Ytofecellbfhnjaa

/- Layer 17: messages with extensions are written by the program. -/

namespace Go.Proofs.Ytofecellbfhnjaa
open Go.Dbr
set_option maxRecDepth 100000
set_option maxHeartbeats 2000000
set_option linter.unusedVariables false
set_option linter.unusedSimpArgs false

end Go.Proofs.Ytofecellbfhnjaa

/- Layer 17: offered tickets are read by the program. -/

namespace Go.Proofs.Ytofecellbfhnjaa
open Go.Dbr
set_option maxRecDepth 100000
set_option maxHeartbeats 2000000
set_option linter.unusedVariables false
set_option linter.unusedSimpArgs false

theorem sv_nz {α : Type} {f : α → List Value} {sz : Nat} {w : World} {L : List Ent} (h : Heap w L) {k : Nat} {a : Option Addr} {cap : Nat} {xs : List α} {T : TypeId} (hk : L[k]? = some (.vec a cap sz (xs.flatMap f) T)) (hf : ∀ x, (f x).length = sz) (h1 : 0 < sz) : a = none → xs.length = 0 := fun ha => by
  have h0 : Ent.holds0 w (.vec a cap sz (xs.flatMap f) T) := h.holds k _ hk
  subst ha
  obtain ⟨_, h2⟩ := h0
  have := sv_len hf xs
  rw [h2] at this
  rcases Nat.eq_zero_or_pos xs.length with e | e
  · exact e
  · have := Nat.mul_pos e h1; simp at *; omega
section
variable {w w0 : World} {L L0 : List Ent}
end
end Go.Proofs.Ytofecellbfhnjaa

/- Layer 17: offered tickets are read by the program: all of a body. -/

namespace Go.Proofs.Ytofecellbfhnjaa
open Go.Dbr
set_option maxRecDepth 100000
set_option maxHeartbeats 2000000
set_option linter.unusedVariables false
set_option linter.unusedSimpArgs false

end Go.Proofs.Ytofecellbfhnjaa

/- Layer 17: offered tickets are read by the document. -/

namespace Go.Proofs.Ytofecellbfhnjaa
open Go.Dbr
set_option maxRecDepth 100000
set_option maxHeartbeats 2000000
set_option linter.unusedVariables false
set_option linter.unusedSimpArgs false

end Go.Proofs.Ytofecellbfhnjaa

/- Layer 17: both readers find the same. -/

namespace Go.Proofs.Ytofecellbfhnjaa
open Go.Dbr
set_option maxRecDepth 100000
set_option maxHeartbeats 2000000
set_option linter.unusedVariables false
set_option linter.unusedSimpArgs false

/-- both are short, or both have found the same -/
def Like {α : Type} (q d : α × PS) : Prop := q.2.2.1 = d.2.2.1 ∧ (q.2.2.1 = false → q = d)
section
variable {α : Type}
theorem like_A {q d : α × PS} (h : Like q d) : gotA q = gotA d := by
  cases e : q.2.2.1 with
  | true => rw [gotA, gotA, ← h.1, e, endV, endV, if_pos (.inl rfl), if_pos (.inl rfl)]
  | false => rw [h.2 e]
theorem like_V {z : α} {q d : α × PS} (h : Like q d) : gotV z q = gotV z d := by
  cases e : q.2.2.1 with
  | true =>
    have e1 : gotA q = 50 := by rw [gotA, e, endV, if_pos (.inl rfl)]
    rw [gotV_n e1 (by decide), gotV_n ((like_A h).symm.trans e1) (by decide)]
  | false => rw [h.2 e]
theorem like_t {q d : α × PS} (h : q.2.2.1 = true) (h2 : d.2.2.1 = true) : Like q d := ⟨h.trans h2.symm, fun g => by rw [h] at g; cases g⟩
theorem like_r {q d : α × PS} (h : q = d) : Like q d := ⟨by rw [h], fun _ => h⟩
end
theorem tkS_t (n : Nat) (l : Bs) : tkS n l true = true := rfl
theorem tk_dk {n : Nat} {l : Bs} {s : Bool} (h : tkS n l s = false) : tkR n l s = dkR n l s := by rw [tkR, dkR, h]; rfl
theorem lsS_t (n x y : Nat) (l : Bs) : lsS n x y l true = true := by rw [lsS, lsT, tkS_t, Bool.true_or, tkS_t]
theorem ldS_t (n x y : Nat) (l : Bs) : ldS n x y l true = true := by rw [ldS, lsT, tkS_t, Bool.true_or, tkS_t]
theorem ls_ld (n x y : Nat) (l : Bs) (s : Bool) : lsS n x y l s = ldS n x y l s := by
  cases h : tkS n l s with
  | true => rw [lsS, ldS, lsT, h, Bool.true_or, tkS_t, tkS_t]
  | false => rw [lsS, ldS, tk_dk h]
theorem ls_ld2 {n x y : Nat} {l : Bs} {s : Bool} (h : lsS n x y l s = false) : lsO n x y l s = ldO n x y l s ∧ lsR n x y l s = ldR n x y l s := by
  have h1 := (lsS_f h).1
  have e := tk_dk h1
  constructor
  · rw [lsO, ldO, e]
  · rw [lsR, ldR, ← e]
    exact tk_dk h
theorem nbV_2 {n : Nat} (hn : n ≤ 2) (l : Bs) (s : Bool) : nbV n l s ≤ 65535 := by
  have h := beV_lt _ (tkO n l s) rfl
  have h2 : 256 ^ (tkO n l s).length ≤ 256 ^ 2 := Nat.pow_le_pow_right (by decide) (Nat.le_trans (tkO_len n l s) hn)
  exact Nat.le_of_lt_succ (Nat.lt_of_lt_of_le h h2)
theorem lsT_b {n x : Nat} (hn : n ≤ 2) (l : Bs) (s : Bool) : lsT n x 16777215 l s = lsT n x 65535 l s := by
  have h := nbV_2 hn l s
  rw [lsT, lsT, decide_eq_false (show ¬ 16777215 < nbV n l s by omega), decide_eq_false (show ¬ 65535 < nbV n l s by omega)]
theorem ls_b {n x : Nat} (hn : n ≤ 2) (l : Bs) (s : Bool) : lsS n x 16777215 l s = lsS n x 65535 l s ∧ lsO n x 16777215 l s = lsO n x 65535 l s ∧ lsR n x 16777215 l s = lsR n x 65535 l s := by
  refine ⟨?_, ?_, ?_⟩
  · rw [lsS, lsS, lsT_b hn]
  · rw [lsO, lsO, lsT_b hn]
  · rw [lsR, lsR, lsT_b hn]
theorem u16_like (l : Bs) (s o : Bool) : Like (u16M l s o) (du16M l s o) := ⟨rfl, fun h => by rw [u16M, du16M, tk_dk h]⟩
theorem mnf_like {α : Type} {one two : Bs → Bool → Bool → α × PS} (h : ∀ l s o, Like (one l s o) (two l s o)) : ∀ (f : Nat) (p : PS), Like (mnf one f p) (mnf two f p)
  | 0, p => like_r rfl
  | f + 1, p => by
    by_cases hp : p.2.1 = true ∨ p.1 = []
    · exact like_r (by rw [mnf_end hp, mnf_end hp])
    · have hq := h p.1 p.2.1 p.2.2
      cases e : (one p.1 p.2.1 p.2.2).2.2.1 with
      | true =>
        have e2 : (two p.1 p.2.1 p.2.2).2.2.1 = true := hq.1.symm.trans e
        exact like_t (by rw [mnf, if_neg hp]; show (mnf one f (one p.1 p.2.1 p.2.2).2).2.2.1 = true; rw [mnf_end (.inl e)]; exact e) (by rw [mnf, if_neg hp]; show (mnf two f (two p.1 p.2.1 p.2.2).2).2.2.1 = true; rw [mnf_end (.inl e2)]; exact e2)
      | false =>
        have e2 := hq.2 e
        have ih := mnf_like h f (two p.1 p.2.1 p.2.2).2
        rw [mnf, mnf, if_neg hp, if_neg hp, e2]
        refine ⟨ih.1, fun g => ?_⟩
        have := ih.2 g
        rw [this]
theorem mn_like {α : Type} {one two : Bs → Bool → Bool → α × PS} (h : ∀ l s o, Like (one l s o) (two l s o)) (p : PS) : Like (mn one p) (mn two p) := mnf_like h _ _
theorem many_like {α : Type} {one two : Bs → Bool → Bool → α × PS} (h : ∀ l s o, Like (one l s o) (two l s o)) {n : Nat} (hn : n ≤ 2) (x : Nat) (l : Bs) (s o : Bool) : Like (manyM one n x l s o) (dmanyM two n x 65535 l s o) := by
  have hb := ls_b (x := x) hn l s
  cases e : lsS n x 65535 l s with
  | true =>
    refine like_t ?_ ?_
    · show (lsS n x 16777215 l s || _) = true
      rw [hb.1, e, Bool.true_or]
    · show (ldS n x 65535 l s || _) = true
      rw [← ls_ld, e, Bool.true_or]
  | false =>
    have e2 := ls_ld2 e
    have hm := mn_like h (ldO n x 65535 l s, ldS n x 65535 l s, false)
    refine ⟨?_, fun g => ?_⟩
    · show (lsS n x 16777215 l s || (mn one (lsO n x 16777215 l s, lsS n x 16777215 l s, false)).2.2.1) = (ldS n x 65535 l s || (mn two (ldO n x 65535 l s, ldS n x 65535 l s, false)).2.2.1)
      rw [hb.1, hb.2.1, e2.1, ls_ld, hm.1]
    · have g : (lsS n x 16777215 l s || (mn one (lsO n x 16777215 l s, lsS n x 16777215 l s, false)).2.2.1) = false := g
      rw [hb.1, hb.2.1, e2.1, ls_ld, Bool.or_eq_false_iff] at g
      have := hm.2 g.2
      rw [manyM, dmanyM, hb.1, hb.2.1, hb.2.2, e2.1, e2.2, ls_ld, this]
end Go.Proofs.Ytofecellbfhnjaa

/- Layer 17: messages with extensions: both read and write the same. -/




namespace Go.Proofs.Ytofecellbfhnjaa
open Go.Dbr
set_option maxRecDepth 100000
set_option maxHeartbeats 2000000
set_option linter.unusedVariables false
set_option linter.unusedSimpArgs false

/-! readers -/
theorem extv_like (l : Bs) (s o : Bool) : Like (extM l s o) (dextM l s o) := by
  cases h : tkS 2 l s with
  | true => exact like_t (by show lsS 2 0 65535 (tkR 2 l s) (tkS 2 l s) = true; rw [h, lsS_t]) (by show ldS 2 0 65535 (dkR 2 l s) (tkS 2 l s) = true; rw [h, ldS_t])
  | false =>
    refine ⟨by show lsS 2 0 65535 (tkR 2 l s) (tkS 2 l s) = ldS 2 0 65535 (dkR 2 l s) (tkS 2 l s); rw [tk_dk h, ls_ld], fun g => ?_⟩
    have g : lsS 2 0 65535 (tkR 2 l s) (tkS 2 l s) = false := g
    have e := ls_ld2 g
    rw [extM, dextM, e.1, e.2, ls_ld, tk_dk h]
theorem mnf_o {α : Type} {one : Bs → Bool → Bool → α × PS} (h : ∀ l s o, (one l s o).2.2.2 = o) : ∀ (f : Nat) (p : PS), (mnf one f p).2.2.2 = p.2.2
  | 0, p => rfl
  | f + 1, p => by
    by_cases hp : p.2.1 = true ∨ p.1 = []
    · rw [mnf_end hp]
    · rw [mnf, if_neg hp]
      exact (mnf_o h f _).trans (h _ _ _)
theorem mn_o {α : Type} {one : Bs → Bool → Bool → α × PS} (h : ∀ l s o, (one l s o).2.2.2 = o) (p : PS) : (mn one p).2.2.2 = p.2.2 := mnf_o h _ p
theorem exts_like (l : Bs) (s o : Bool) : Like (extsM l s o) (dextsM l s o) := by
  have h := many_like extv_like (n := 2) (by decide) 0 l s o
  refine ⟨h.1, fun g => ?_⟩
  have e := h.2 g
  have ho : (dmanyM dextM 2 0 65535 l s o).2.2.2 = o := by
    show (o || (mn dextM (ldO 2 0 65535 l s, ldS 2 0 65535 l s, false)).2.2.2) = o
    rw [mn_o (fun _ _ _ => rfl)]
    exact Bool.or_false _
  rw [extsM, dextsM, e, ho]
theorem bor_t {a : Bool} (b : Bool) (h : a = true) : (a || b) = true := by rw [h, Bool.true_or]
theorem exts_t (l : Bs) (o : Bool) : (extsM l true o).2.2.1 = true := bor_t (a := lsS 2 0 16777215 l true) (mn extM (lsO 2 0 16777215 l true, lsS 2 0 16777215 l true, false)).2.2.1 (lsS_t _ _ _ _)
theorem dexts_t (l : Bs) (o : Bool) : (dextsM l true o).2.2.1 = true := bor_t (a := ldS 2 0 65535 l true) (mn dextM (ldO 2 0 65535 l true, ldS 2 0 65535 l true, false)).2.2.1 (ldS_t _ _ _ _)
theorem many_t {α : Type} (one : Bs → Bool → Bool → α × PS) (n x : Nat) (l : Bs) (o : Bool) : (manyM one n x l true o).2.2.1 = true := bor_t (a := lsS n x 16777215 l true) (mn one (lsO n x 16777215 l true, lsS n x 16777215 l true, false)).2.2.1 (lsS_t _ _ _ _)
theorem dmany_t {α : Type} (one : Bs → Bool → Bool → α × PS) (n x y : Nat) (l : Bs) (o : Bool) : (dmanyM one n x y l true o).2.2.1 = true := bor_t (a := ldS n x y l true) (mn one (ldO n x y l true, ldS n x y l true, false)).2.2.1 (ldS_t _ _ _ _)
def SS (a b : Bs × Bool) : Prop := a.2 = b.2 ∧ (a.2 = false → a = b)
theorem ss_tk {n : Nat} {a b : Bs × Bool} (h : SS a b) : SS (tkR n a.1 a.2, tkS n a.1 a.2) (dkR n b.1 b.2, tkS n b.1 b.2) := by
  cases e : a.2 with
  | true => have e2 := h.1.symm.trans e; exact ⟨by rw [e2]; rfl, fun g => by cases g⟩
  | false =>
    have e2 := h.2 e
    rw [← e2, ← e]
    exact ⟨rfl, fun g => by rw [tk_dk g]⟩
theorem ss_ls {n x y : Nat} {a b : Bs × Bool} (h : SS a b) : SS (lsR n x y a.1 a.2, lsS n x y a.1 a.2) (ldR n x y b.1 b.2, ldS n x y b.1 b.2) := by
  cases e : a.2 with
  | true => have e2 := h.1.symm.trans e; rw [e2]; exact ⟨by rw [lsS_t, ldS_t], fun g => by rw [lsS_t] at g; cases g⟩
  | false =>
    have e2 := h.2 e
    rw [← e2, ← e]
    exact ⟨ls_ld _ _ _ _ _, fun g => by rw [(ls_ld2 g).2, ls_ld]⟩
theorem ss_f {n : Nat} {l : Bs} {s : Bool} (h : tkS n l s = false) : s = false := by rw [tkS, Bool.or_eq_false_iff] at h; exact h.1
/-! writers -/
theorem ex_like (p d : WS) (t : EX) (h : LikeW p d) : LikeW (exF p t) (dexF d t) := likeW_one h (fun l => l ++ beN 2 t.1.toNat)
theorem part_like {n x : Nat} {p d a b : WS} (h : LikeW p d) (g : LikeW a b) : LikeW (wput n p.1 a.1, wbad n x 16777215 a.1.length (p.2 || a.2)) (dput n x 16777215 d.1 b.1, (d.2 || b.2) || dbad n x 16777215 b.1.length) := by
  have key : wbad n x 16777215 a.1.length (p.2 || a.2) = ((d.2 || b.2) || dbad n x 16777215 b.1.length) := by
    rw [wd_eq, ← h.1, ← g.1]
    cases e : a.2 with
    | true => rw [Bool.or_true, Bool.true_or, Bool.true_or]
    | false => rw [g.2 e]
  refine ⟨key, fun q => ?_⟩
  have q : wbad n x 16777215 a.1.length (p.2 || a.2) = false := q
  rw [wd_eq, Bool.or_eq_false_iff, Bool.or_eq_false_iff] at q
  show wput n p.1 a.1 = dput n x 16777215 d.1 b.1
  rw [← g.2 q.1.2, dput_f q.2, h.2 q.1.1]
theorem wex_like {p d : WS} (h : LikeW p d) (ps : List EX) : LikeW (wexF p ps) (wdexF d ps) := by
  have hA := allM_like ex_like ps
  have := part_like (n := 2) (x := 0) (a := ((allM exF ps).1, dupA ps || (allM exF ps).2)) (b := ((allM dexF ps).1, (allM dexF ps).2 || dupA ps)) h ⟨by show (dupA ps || (allM exF ps).2) = ((allM dexF ps).2 || dupA ps); rw [hA.1, Bool.or_comm], fun g => hA.2 (Bool.or_eq_false_iff.1 g).2⟩
  rw [wexF, wdexF, Bool.or_assoc]
  exact this
theorem done_eq {p d : WS} (h : LikeW p d) : doneL p.2 p.1 = doneL d.2 d.1 := by
  rw [← h.1]
  cases e : p.2 with
  | true => rfl
  | false => rw [h.2 e]
theorem like_0 : LikeW ([], false) ([], false) := ⟨rfl, fun _ => rfl⟩
/-! how much -/
theorem exF_l (p : WS) (x : EX) : (exF p x).1.length ≤ p.1.length + 8 * (x.2.length + 1) := by rw [exF, wput_len, List.length_append, beN_len]; omega
end Go.Proofs.Ytofecellbfhnjaa

/- Layer 17: greetings: both read and write the same. -/



namespace Go.Proofs.Ytofecellbfhnjaa
open Go.Dbr
set_option maxRecDepth 100000
set_option maxHeartbeats 2000000
set_option linter.unusedVariables false
set_option linter.unusedSimpArgs false

theorem fd_tk {t : UInt16} : ∀ (ps : List EX) (m : Nat), fdN t (List.take m ps) < (List.take m ps).length ↔ fdN t ps < m ∧ fdN t ps < ps.length
  | [], m => by simp [fdN]
  | q :: r, 0 => by simp [fdN]
  | q :: r, m + 1 => by
    by_cases e : q.1 = t
    · rw [List.take_succ_cons, fdN, if_pos e, fdN, if_pos e, List.length_cons, List.length_cons]; omega
    · have h := fd_tk (t := t) r m
      rw [List.take_succ_cons, fdN, if_neg e, fdN, if_neg e, List.length_cons, List.length_cons]; omega
theorem lq_eq (ps : List EX) : lastQ ps = dlq ps := by
  rw [Bool.eq_iff_iff, lastQ, Bool.and_eq_true, decide_eq_true_eq, decide_eq_true_eq, dlq, hasE, decide_eq_true_eq, fd_tk]
  by_cases h : fdN 41 ps < ps.length
  · rw [fdI_y h]; omega
  · rw [fdI_n h]; omega
/-! readers -/
theorem beg_like (l : Bs) (s o : Bool) : Like (begM l s o) (dbegM l s o) := by
  have h0 : SS (l, s) (l, s) := ⟨rfl, fun _ => rfl⟩
  have h1 : SS (tkR 2 l s, tkS 2 l s) (dkR 2 l s, tkS 2 l s) := ss_tk (n := 2) h0
  have h2 := ss_tk (n := 32) h1
  have h3 := ss_ls (n := 1) (x := 0) (y := 32) h2
  refine ⟨h3.1, fun g => ?_⟩
  have g : lsS 1 0 32 (tkR 32 (tkR 2 l s) (tkS 2 l s)) (tkS 32 (tkR 2 l s) (tkS 2 l s)) = false := g
  have f2 := (lsS_f g).2
  have e1 := tk_dk (ss_f f2)
  have e := ls_ld2 g
  rw [begM, dbegM, e.1, e.2, ls_ld, tk_dk f2, e1]
theorem exts_s2 {l : Bs} {s o : Bool} (h : (extsM l s o).2.2.1 = false) : s = false := by
  cases s with
  | false => rfl
  | true => rw [exts_t] at h; exact h
theorem many_s2 {α : Type} {one : Bs → Bool → Bool → α × PS} {n x : Nat} {l : Bs} {s o : Bool} (h : (manyM one n x l s o).2.2.1 = false) : s = false := by
  cases s with
  | false => rfl
  | true => rw [many_t] at h; exact h
theorem cg_like (l : Bs) (s o : Bool) : Like (cgM l s o) (dcgM l s o) := by
  have h := beg_like l s o
  rw [cgM, dcgM]
  cases e : (begM l s o).2.2.1 with
  | true => exact like_t (many_t _ _ _ _ _) (by rw [← h.1, e]; exact dmany_t _ _ _ _ _ _)
  | false => rw [← h.2 e, ← e]; exact many_like u16_like (by decide) 2 _ _ _
theorem cx_like (l : Bs) (s o : Bool) : Like (cxM l s o) (dcxM (dcgM l s o)) := by
  have h := cg_like l s o
  rw [cxM, dcxM]
  cases e : (cgM l s o).2.2.1 with
  | true => exact like_t (by rw [lsS_t]; exact exts_t _ _) (by rw [← h.1, e, ldS_t]; exact dexts_t _ _)
  | false =>
    rw [← h.2 e, ← e]
    cases e2 : lsS 1 1 1 (cgM l s o).2.1 (cgM l s o).2.2.1 with
    | true => exact like_t (exts_t _ _) (by rw [← ls_ld, e2]; exact dexts_t _ _)
    | false =>
      have q := ls_ld2 e2
      rw [q.1, q.2, ← ls_ld, e2]
      exact exts_like _ _ _
theorem cli_like (l : Bs) (s o : Bool) : Like (cliM l s o) (dcliM l s o) := by
  have hx := cx_like l s o
  refine ⟨hx.1, fun g => ?_⟩
  have g : (cxM l s o).2.2.1 = false := g
  have f1 : (cgM l s o).2.2.1 = false := (lsS_f (exts_s2 g)).2
  have f0 : (begM l s o).2.2.1 = false := many_s2 f1
  have e1 := (cg_like l s o).2 f1
  have e0 := (beg_like l s o).2 f0
  rw [cliM, dcliM, dcliQ, ← hx.2 g, ← e1, ← e0, lq_eq]
theorem srv_like (l : Bs) (s : Bool) : Like (srvM l s false) (dsrvO l s false) := by
  have hb := beg_like l s false
  have hs : SS ((begM l s false).2.1, (begM l s false).2.2.1) ((dbegM l s false).2.1, (dbegM l s false).2.2.1) := ⟨hb.1, fun g => by rw [hb.2 g]⟩
  have h1 : SS (s1M l s false) (d1M l s) := ss_tk (n := 2) hs
  have h2 := ss_tk (n := 1) h1
  cases e : tkS 1 (s1M l s false).1 (s1M l s false).2 with
  | true => exact like_t (by show (extsM _ (tkS 1 (s1M l s false).1 (s1M l s false).2) _).2.2.1 = true; rw [e]; exact exts_t _ _) (by show (dextsM _ (tkS 1 (d1M l s).1 (d1M l s).2) _).2.2.1 = true; rw [show tkS 1 (d1M l s).1 (d1M l s).2 = true from h2.1.symm.trans e]; exact dexts_t _ _)
  | false =>
    have f1 : (s1M l s false).2 = false := ss_f e
    have e1 := h1.2 f1
    have f0 : (begM l s false).2.2.1 = false := ss_f f1
    have e0 := hb.2 f0
    have hx := exts_like (tkR 1 (s1M l s false).1 (s1M l s false).2) (tkS 1 (s1M l s false).1 (s1M l s false).2) (sz (nbV 1 (s1M l s false).1 (s1M l s false).2))
    have a1 : sxM l s false = extsM (tkR 1 (s1M l s false).1 (s1M l s false).2) (tkS 1 (s1M l s false).1 (s1M l s false).2) (sz (nbV 1 (s1M l s false).1 (s1M l s false).2)) := by
      show extsM _ _ (sz _ || false) = _
      rw [Bool.or_false]
    have a2 : dsxM l s = dextsM (tkR 1 (s1M l s false).1 (s1M l s false).2) (tkS 1 (s1M l s false).1 (s1M l s false).2) (sz (nbV 1 (s1M l s false).1 (s1M l s false).2)) := by rw [dsxM, ← e1, tk_dk e]
    rw [← a1, ← a2] at hx
    refine ⟨hx.1, fun g => ?_⟩
    have g : (sxM l s false).2.2.1 = false := g
    rw [srvM, dsrvO, dsrvM, ← hx.2 g, ← e0]
/-! writers -/
theorem begF_like (v : UInt16) (ar b : Bs) : LikeW (begF v ar b) (dbegF v ar b) := likeW_one like_0 (fun l => (l ++ beN 2 v.toNat) ++ ar)
theorem nmsF_like {p d : WS} (h : LikeW p d) (ns : List UInt16) : LikeW (nmsF p ns) (dnmF d ns) := part_like h (allM_like u16_likeW ns)
theorem app_like {p d : WS} (h : LikeW p d) (t : Bs) (q : Bool) : LikeW (p.1 ++ t, p.2 || q) (d.1 ++ t, d.2 || q) := ⟨by show (p.2 || q) = (d.2 || q); rw [h.1], fun g => by
  have g : (p.2 || q) = false := g
  rw [Bool.or_eq_false_iff] at g
  show p.1 ++ t = d.1 ++ t
  rw [h.2 g.1]⟩
theorem cliF_like (x : HL) : LikeW (cliF x) (dcliF x) := by
  rw [cliF, dcliF, lq_eq]
  exact wex_like (app_like (nmsF_like (begF_like _ _ _) _) _ _) _
theorem cli_eq (x : HL) : cliP x = dcliP x := done_eq (cliF_like x)
theorem srvF_like (x : HL) (n : UInt16) : LikeW (srvF x n) (dsrvF x n) := by
  have h := begF_like x.1 x.2.1 x.2.2.1
  exact wex_like (p := (((begF x.1 x.2.1 x.2.2.1).1 ++ beN 2 n.toNat) ++ [0], (begF x.1 x.2.1 x.2.2.1).2)) (d := (((dbegF x.1 x.2.1 x.2.2.1).1 ++ beN 2 n.toNat) ++ [0], (dbegF x.1 x.2.1 x.2.2.1).2)) ⟨h.1, fun g => congrArg (fun z => (z ++ beN 2 n.toNat) ++ [0]) (h.2 g)⟩ _
theorem srv_eq (x : HL) : srvP x = dsrvP x := by
  obtain ⟨v, ar, b, ns, es⟩ := x
  match ns with
  | [n] => exact done_eq (srvF_like (v, ar, b, [n], es) n)
  | [] => rfl
  | _ :: _ :: _ => rfl

end Go.Proofs.Ytofecellbfhnjaa
