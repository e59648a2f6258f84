/- Layer 13: what the statements ask, walked. -/
import Derived.Test.YtpfhmbbiadpbeaaE3
namespace Go.Proofs.Ytpfhmbbiadpbeaa
open Go.Dbr
set_option maxRecDepth 100000
set_option maxHeartbeats 2000000
set_option linter.unusedVariables false
set_option linter.unusedSimpArgs false

theorem pzeq {a b : PZ} (h : a = b) : ((a.1 == b.1) && ((a.2.1 == b.2.1) && (a.2.2 == b.2.2))) = true := by
  subst h
  rw [beq_self_eq_true, beq_self_eq_true, beq_self_eq_true]
  rfl
theorem h3f : (3 : Int) = 1 ∨ (3 : Int) = 2 ∨ (3 : Int) = 3 ∨ (3 : Int) = 4 := .inr (.inr (.inl rfl))
theorem hL3 : LeftOk 3 := leftOk3 (by decide)
theorem nv_a3 (x y : Nat) : nv (nd (addM 3 x y)) = addM 3 x y := nv_nd (addM_lt h3f x y)

theorem reckons_walk (pa : Bool) (pb : List UInt64) (pc : List UInt64) (qa : Bool) (qb : List UInt64) (qc : List UInt64) (k : List UInt64) (w : World) (n_pb : (List.length pb = 4)) (n_pc : (List.length pc = 4)) (n_qb : (List.length qb = 4)) (n_qc : (List.length qc = 4)) (n_k : (List.length k = 4)) : Calls Try.prog 3 #[.agg (List.toArray (([.bool pa] : List Value) ++ ((u64s pb) ++ (u64s pc)))), .agg (List.toArray (([.bool qa] : List Value) ++ ((u64s qb) ++ (u64s qc)))), .agg (List.toArray (u64s k))] w fun e w' => e = .returned (.bool true) ∧ Ev w [] w' [] := by
 refine d_0 [(0, .agg (List.toArray (([.bool pa] : List Value) ++ ((u64s pb) ++ (u64s pc))))), (1, .agg (List.toArray (([.bool qa] : List Value) ++ ((u64s qb) ++ (u64s qc))))), (2, .agg (List.toArray (u64s k)))] 44 Go.Proofs.Try.func3 Go.Proofs.Try.ntmps3 (Heap.nil _) fun act0 En0 Hv0 => ?_
 refine wp_seq ?_
 refine region_from ?_
 refine f_o ?_
 refine m_m 26 (([.bool pa] : List Value) ++ ((u64s pb) ++ (u64s pc))) En0 Hv0 fun ac2 wo3 bk1 En4 Hv5 => ?_
 refine f_o ?_
 refine m_m 26 (([.bool qa] : List Value) ++ ((u64s qb) ++ (u64s qc))) En4 Hv5 fun ac7 wo8 bk6 En9 Hv10 => ?_
 refine f_o ?_
 refine m_m 24 (u64s k) En9 Hv10 fun ac12 wo13 bk11 En14 Hv15 => ?_
 refine d_e [3,4,5,6] [] En14 fun ac16 En17 => ?_
 refine then_normal ?_
 refine wp_seq ?_
 refine region_from ?_
 refine f_o ?_
 refine c_p En17 Hv15 (head_ok _) fun ac22 wo19 En23 Hv24 => ?_
 refine d_e [3,4,5,6,7] [] En23 fun ac25 En26 => ?_
 refine then_normal ?_
 refine wp_seq ?_
 refine r_c (fun ac wo => Env ac 44 [(3, pt bk1), (5, pt bk11), (6, .bool false), (7, .bool true), (8, .bool true)] ∧ Ev w [] wo [.box bk1 (([.bool pa] : List Value) ++ ((u64s pb) ++ (u64s pc))) 26, .box bk11 (u64s k) 24]) ?_ ?_
 ·
  refine s_g0 [(3, pt bk1), (4, pt bk6), (5, pt bk11), (6, .bool false), (7, .bool true)] [0,1,2,3,4,5,6,7] [(8, .bool true), (11, .agg (List.toArray (([.bool pa] : List Value) ++ ((u64s pb) ++ (u64s pc))))), (12, .agg (List.toArray (([.bool qa] : List Value) ++ ((u64s qb) ++ (u64s qc))))), (13, .agg (List.toArray (([.bool ((addP (pa, pb, pc) (qa, qb, qc)).1)] : List Value) ++ ((u64s ((addP (pa, pb, pc) (qa, qb, qc)).2.1)) ++ (u64s ((addP (pa, pb, pc) (qa, qb, qc)).2.2)))))), (14, .agg (List.toArray (([.bool pa] : List Value) ++ ((u64s pb) ++ (u64s pc))))), (15, .agg (List.toArray (([.bool qa] : List Value) ++ ((u64s qb) ++ (u64s qc))))), (16, .agg (List.toArray (([.bool ((addP (pa, pb, pc) (qa, qb, qc)).1)] : List Value) ++ ((u64s ((addP (pa, pb, pc) (qa, qb, qc)).2.1)) ++ (u64s ((addP (pa, pb, pc) (qa, qb, qc)).2.2)))))), (17, .bool true)] 0 [(3, pt bk1), (5, pt bk11), (6, .bool false), (7, .bool true), (8, .bool true)] (En26.sb) (Hv24.trans (Ev.drew Hv24.heap)) ?_ fun ac72 wo73 En74 Hv75 => ?_
  ·
   refine s_a 0 0 9 (([.bool pa] : List Value) ++ ((u64s pb) ++ (u64s pc))) rfl (load_whole (len_app rfl (len_app (u64s_lenh n_pb) (u64s_lenh n_pc)))) (len_app rfl (len_app (u64s_lenh n_pb) (u64s_lenh n_pc))) ?_
   refine s_a 1 0 9 (([.bool qa] : List Value) ++ ((u64s qb) ++ (u64s qc))) rfl (load_whole (len_app rfl (len_app (u64s_lenh n_qb) (u64s_lenh n_qc)))) (len_app rfl (len_app (u64s_lenh n_qb) (u64s_lenh n_qc))) ?_
   refine s_f (fun _ => padd_go _ pa pb pc n_pb n_pc qa qb qc n_qb n_qc) ?_
   refine s_a 0 0 9 (([.bool pa] : List Value) ++ ((u64s pb) ++ (u64s pc))) rfl (load_whole (len_app rfl (len_app (u64s_lenh n_pb) (u64s_lenh n_pc)))) (len_app rfl (len_app (u64s_lenh n_pb) (u64s_lenh n_pc))) ?_
   refine s_a 1 0 9 (([.bool qa] : List Value) ++ ((u64s qb) ++ (u64s qc))) rfl (load_whole (len_app rfl (len_app (u64s_lenh n_qb) (u64s_lenh n_qc)))) (len_app rfl (len_app (u64s_lenh n_qb) (u64s_lenh n_qc))) ?_
   refine s_f (fun _ => dpadd_go _ pa pb pc n_pb n_pc qa qb qc n_qb n_qc) ?_
   refine s_c (fun Mx65 ac66 wo67 En68 Hv69 => ?_) ?_
   ·
    refine q_v (x := eqOp .eql 26 (.tmp 13) (.tmp 16) (.agg (List.toArray (([.bool ((addP (pa, pb, pc) (qa, qb, qc)).1)] : List Value) ++ ((u64s ((addP (pa, pb, pc) (qa, qb, qc)).2.1)) ++ (u64s ((addP (pa, pb, pc) (qa, qb, qc)).2.2)))))) (.agg (List.toArray (([.bool ((addP (pa, pb, pc) (qa, qb, qc)).1)] : List Value) ++ ((u64s ((addP (pa, pb, pc) (qa, qb, qc)).2.1)) ++ (u64s ((addP (pa, pb, pc) (qa, qb, qc)).2.2))))))) (v := .bool true) En68 (Go.Dbr.run_is (fun w => Go.Dbr.pnt_eqop (a := (.tmp 13)) (b := (.tmp 16)) isP (addP_len _ _).1 (addP_len _ _).2 (addP_len _ _).1 (addP_len _ _).2 w) (pzeq rfl) _) fun ac70 En71 => ?_
    exact s_e En71 Hv69
   refine s_p [] ?_
   exact s_n
  exact a_e ⟨En74.sb, Hv75.pk [0, 2]⟩
 rintro ac76 wo77 ⟨En78, Hv79⟩
 refine then_normal ?_
 refine wp_seq ?_
 refine r_c (fun ac wo => Env ac 44 [(3, pt bk1), (6, .bool false), (7, .bool true), (8, .bool true), (9, .bool true)] ∧ Ev w [] wo [.box bk1 (([.bool pa] : List Value) ++ ((u64s pb) ++ (u64s pc))) 26]) ?_ ?_
 ·
  refine s_g0 [(3, pt bk1), (5, pt bk11), (6, .bool false), (7, .bool true), (8, .bool true)] [0,1,2,3,4,5,6,7] [(9, .bool true), (18, .agg (List.toArray (u64s k))), (19, .agg (List.toArray (([.bool pa] : List Value) ++ ((u64s pb) ++ (u64s pc))))), (20, .agg (List.toArray (([.bool ((mulP (nv k) (pa, pb, pc)).1)] : List Value) ++ ((u64s ((mulP (nv k) (pa, pb, pc)).2.1)) ++ (u64s ((mulP (nv k) (pa, pb, pc)).2.2)))))), (21, .agg (List.toArray (u64s k))), (22, .agg (List.toArray (([.bool pa] : List Value) ++ ((u64s pb) ++ (u64s pc))))), (23, .agg (List.toArray (([.bool ((mulP (nv k) (pa, pb, pc)).1)] : List Value) ++ ((u64s ((mulP (nv k) (pa, pb, pc)).2.1)) ++ (u64s ((mulP (nv k) (pa, pb, pc)).2.2)))))), (24, .bool true)] 0 [(3, pt bk1), (6, .bool false), (7, .bool true), (8, .bool true), (9, .bool true)] (En78.sb) (Hv79.trans (Ev.drew Hv79.heap)) ?_ fun ac125 wo126 En127 Hv128 => ?_
  ·
   refine s_a 1 0 4 (u64s k) rfl (load_whole (u64s_lenh n_k)) (u64s_lenh n_k) ?_
   refine s_a 0 0 9 (([.bool pa] : List Value) ++ ((u64s pb) ++ (u64s pc))) rfl (load_whole (len_app rfl (len_app (u64s_lenh n_pb) (u64s_lenh n_pc)))) (len_app rfl (len_app (u64s_lenh n_pb) (u64s_lenh n_pc))) ?_
   refine s_f (fun _ => pmult_go _ k n_k pa pb pc n_pb n_pc) ?_
   refine s_a 1 0 4 (u64s k) rfl (load_whole (u64s_lenh n_k)) (u64s_lenh n_k) ?_
   refine s_a 0 0 9 (([.bool pa] : List Value) ++ ((u64s pb) ++ (u64s pc))) rfl (load_whole (len_app rfl (len_app (u64s_lenh n_pb) (u64s_lenh n_pc)))) (len_app rfl (len_app (u64s_lenh n_pb) (u64s_lenh n_pc))) ?_
   refine s_f (fun _ => dpmult_go _ k n_k pa pb pc n_pb n_pc) ?_
   refine s_c (fun Mx118 ac119 wo120 En121 Hv122 => ?_) ?_
   ·
    refine q_v (x := eqOp .eql 26 (.tmp 20) (.tmp 23) (.agg (List.toArray (([.bool ((mulP (nv k) (pa, pb, pc)).1)] : List Value) ++ ((u64s ((mulP (nv k) (pa, pb, pc)).2.1)) ++ (u64s ((mulP (nv k) (pa, pb, pc)).2.2)))))) (.agg (List.toArray (([.bool ((mulP (nv k) (pa, pb, pc)).1)] : List Value) ++ ((u64s ((mulP (nv k) (pa, pb, pc)).2.1)) ++ (u64s ((mulP (nv k) (pa, pb, pc)).2.2))))))) (v := .bool true) En121 (Go.Dbr.run_is (fun w => Go.Dbr.pnt_eqop (a := (.tmp 20)) (b := (.tmp 23)) isP (mulP_len _ _).1 (mulP_len _ _).2 (mulP_len _ _).1 (mulP_len _ _).2 w) (pzeq rfl) _) fun ac123 En124 => ?_
    exact s_e En124 Hv122
   refine s_p [] ?_
   exact s_n
  exact a_e ⟨En127.sb, Hv128.pk [0]⟩
 rintro ac129 wo130 ⟨En131, Hv132⟩
 refine then_normal ?_
 refine wp_seq ?_
 refine r_c (fun ac wo => Env ac 44 [(3, pt bk1), (6, .bool true)] ∧ Ev w [] wo [.box bk1 (([.bool pa] : List Value) ++ ((u64s pb) ++ (u64s pc))) 26]) ?_ ?_
 ·
  refine s_g0 [(3, pt bk1), (7, .bool true), (8, .bool true), (9, .bool true)] [0,1,2,3,4,5,6,7,8,9,10,11,12,13,14,15,16,17,18,19] [(6, .bool true), (25, .bool true), (26, .bool true), (27, .bool true), (28, .bool true), (29, .bool true), (30, .bool true), (31, .bool true), (32, .bool true), (33, .agg (List.toArray (([.bool pa] : List Value) ++ ((u64s pb) ++ (u64s pc))))), (34, .bool (onN pa pb pc)), (35, .agg (List.toArray (([.bool pa] : List Value) ++ ((u64s pb) ++ (u64s pc))))), (36, .bool (onN pa pb pc)), (37, .bool true), (38, .bool true), (39, .bool true), (40, .agg (List.toArray (([.bool false] : List Value) ++ ((u64s (nd GX)) ++ (u64s (nd GY)))))), (41, .agg (List.toArray (([.bool false] : List Value) ++ ((u64s (nd GX)) ++ (u64s (nd GY)))))), (42, .bool true), (43, .bool true)] 0 [(3, pt bk1), (6, .bool true)] (En131.sb) (Hv132.trans (Ev.drew Hv132.heap)) ?_ fun ac186 wo187 En188 Hv189 => ?_
  ·
   refine s_p [] ?_
   refine s_p [] ?_
   refine s_p [] ?_
   refine s_p [] ?_
   refine s_p [] ?_
   refine s_p [] ?_
   refine s_p [] ?_
   refine s_p [] ?_
   refine s_a 0 0 9 (([.bool pa] : List Value) ++ ((u64s pb) ++ (u64s pc))) rfl (load_whole (len_app rfl (len_app (u64s_lenh n_pb) (u64s_lenh n_pc)))) (len_app rfl (len_app (u64s_lenh n_pb) (u64s_lenh n_pc))) ?_
   refine s_f (fun _ => on_go _ pa pb pc n_pb n_pc) ?_
   refine s_a 0 0 9 (([.bool pa] : List Value) ++ ((u64s pb) ++ (u64s pc))) rfl (load_whole (len_app rfl (len_app (u64s_lenh n_pb) (u64s_lenh n_pc)))) (len_app rfl (len_app (u64s_lenh n_pb) (u64s_lenh n_pc))) ?_
   refine s_f (fun _ => don_go _ pa pb pc n_pb n_pc) ?_
   refine s_p [(12, g_b (show ((onN pa pb pc) == (onN pa pb pc)) = true from (beq_self_eq_true _)))] ?_
   refine s_p [] ?_
   refine s_p [] ?_
   refine s_f (fun _ => pbase_go _) ?_
   refine s_f (fun _ => dbase_go _) ?_
   refine s_c (fun Mx179 ac180 wo181 En182 Hv183 => ?_) ?_
   ·
    refine q_v (x := eqOp .eql 26 (.tmp 40) (.tmp 41) (.agg (List.toArray (([.bool false] : List Value) ++ ((u64s (nd GX)) ++ (u64s (nd GY)))))) (.agg (List.toArray (([.bool false] : List Value) ++ ((u64s (nd GX)) ++ (u64s (nd GY))))))) (v := .bool true) En182 (Go.Dbr.run_is (fun w => Go.Dbr.pnt_eqop (a := (.tmp 40)) (b := (.tmp 41)) isP (nds_len _ _) (nds_len _ _) (nds_len _ _) (nds_len _ _) w) (pzeq (a := Gp) (b := Gp) rfl) _) fun ac184 En185 => ?_
    exact s_e En185 Hv183
   refine s_p [] ?_
   refine s_p [] ?_
   exact s_n
  exact a_e ⟨En188.sb, Hv189.pk [0]⟩
 rintro ac190 wo191 ⟨En192, Hv193⟩
 refine then_normal ?_
 refine wp_ret ?_
 refine d_ret1 (t := 6) (v := .bool true) En192 (by kernel_rfl) (by kernel_rfl) ?_
 exact ⟨by first | rfl | kernel_rfl, Hv193.pk []⟩

theorem adds_walk (k : List UInt64) (l : List UInt64) (h : UInt8) (w : World) (n_k : (List.length k = 4)) (n_l : (List.length l = 4)) : Calls Try.prog 4 #[.agg (List.toArray (u64s k)), .agg (List.toArray (u64s l)), bv h] w fun e w' => e = .returned (.bool true) ∧ Ev w [] w' [] := by
 refine d_0 [(0, .agg (List.toArray (u64s k))), (1, .agg (List.toArray (u64s l))), (2, bv h)] 52 Go.Proofs.Try.func4 Go.Proofs.Try.ntmps4 (Heap.nil _) fun act0 En0 Hv0 => ?_
 refine wp_seq ?_
 refine region_from ?_
 refine f_o ?_
 refine m_m 24 (u64s k) En0 Hv0 fun ac2 wo3 bk1 En4 Hv5 => ?_
 refine f_o ?_
 refine m_m 24 (u64s l) En4 Hv5 fun ac7 wo8 bk6 En9 Hv10 => ?_
 refine d_e [2,3,4,6] [] En9 fun ac11 En12 => ?_
 refine then_normal ?_
 refine wp_seq ?_
 refine region_from ?_
 refine f_o ?_
 refine c_p En12 Hv10 (head_ok _) fun ac17 wo14 En18 Hv19 => ?_
 refine d_e [2,3,4,6,7] [] En18 fun ac20 En21 => ?_
 refine then_normal ?_
 refine wp_seq ?_
 refine region_from ?_
 refine f_o ?_
 refine m_a 0 0 4 (u64s k) En21 Hv19 rfl (load_whole (u64s_lenh n_k)) (u64s_lenh n_k) fun ac22 En23 => ?_
 refine f_o ?_
 refine c_p En23 Hv19 (point_go _ k n_k) fun ac28 wo25 En29 Hv30 => ?_
 refine f_o ?_
 refine m_z 26 (([.bool false] : List Value) ++ ((u64s (List.replicate 4 0)) ++ (u64s (List.replicate 4 0)))) En29 Hv30 fun ac32 wo33 bk31 En34 Hv35 => ?_
 refine f_o ?_
 refine m_g 2 0 9 (([.bool ((mulP (nv k) Gp).1)] : List Value) ++ ((u64s ((mulP (nv k) Gp).2.1)) ++ (u64s ((mulP (nv k) Gp).2.2)))) (([.bool ((mulP (nv k) Gp).1)] : List Value) ++ ((u64s ((mulP (nv k) Gp).2.1)) ++ (u64s ((mulP (nv k) Gp).2.2)))) [.box bk1 (u64s k) 24, .box bk6 (u64s l) 24, .box bk31 (([.bool ((mulP (nv k) Gp).1)] : List Value) ++ ((u64s ((mulP (nv k) Gp).2.1)) ++ (u64s ((mulP (nv k) Gp).2.2)))) 26] En34 Hv35 rfl (len_app rfl (len_app (u64s_lenh (mulP_len _ _).1) (u64s_lenh (mulP_len _ _).2))) (by rw [(len_app rfl (len_app (u64s_lenh (List.length_replicate)) (u64s_lenh (List.length_replicate))))]; first | decide | (simp; done)) (one_app (one_all (by kernel_rfl)) (one_app (u64s_one _) (u64s_one _))) (store_whole (len_app rfl (len_app (u64s_lenh (List.length_replicate)) (u64s_lenh (List.length_replicate))))) rfl fun ac36 wo37 En38 Hv39 => ?_
 refine f_e ?_
 refine then_normal ?_
 refine wp_seq ?_
 refine region_from ?_
 refine f_o ?_
 refine m_a 1 0 4 (u64s l) En38 Hv39 rfl (load_whole (u64s_lenh n_l)) (u64s_lenh n_l) fun ac40 En41 => ?_
 refine f_o ?_
 refine c_p En41 Hv39 (point_go _ l n_l) fun ac46 wo43 En47 Hv48 => ?_
 refine f_o ?_
 refine m_z 26 (([.bool false] : List Value) ++ ((u64s (List.replicate 4 0)) ++ (u64s (List.replicate 4 0)))) En47 Hv48 fun ac50 wo51 bk49 En52 Hv53 => ?_
 refine f_o ?_
 refine m_g 3 0 9 (([.bool ((mulP (nv l) Gp).1)] : List Value) ++ ((u64s ((mulP (nv l) Gp).2.1)) ++ (u64s ((mulP (nv l) Gp).2.2)))) (([.bool ((mulP (nv l) Gp).1)] : List Value) ++ ((u64s ((mulP (nv l) Gp).2.1)) ++ (u64s ((mulP (nv l) Gp).2.2)))) [.box bk1 (u64s k) 24, .box bk6 (u64s l) 24, .box bk31 (([.bool ((mulP (nv k) Gp).1)] : List Value) ++ ((u64s ((mulP (nv k) Gp).2.1)) ++ (u64s ((mulP (nv k) Gp).2.2)))) 26, .box bk49 (([.bool ((mulP (nv l) Gp).1)] : List Value) ++ ((u64s ((mulP (nv l) Gp).2.1)) ++ (u64s ((mulP (nv l) Gp).2.2)))) 26] En52 Hv53 rfl (len_app rfl (len_app (u64s_lenh (mulP_len _ _).1) (u64s_lenh (mulP_len _ _).2))) (by rw [(len_app rfl (len_app (u64s_lenh (List.length_replicate)) (u64s_lenh (List.length_replicate))))]; first | decide | (simp; done)) (one_app (one_all (by kernel_rfl)) (one_app (u64s_one _) (u64s_one _))) (store_whole (len_app rfl (len_app (u64s_lenh (List.length_replicate)) (u64s_lenh (List.length_replicate))))) rfl fun ac54 wo55 En56 Hv57 => ?_
 refine f_e ?_
 refine then_normal ?_
 refine wp_seq ?_
 refine d_s [6,7,8,9,16] [(1, g_i .u8 (Go.Dbr.u8_and (x := h) (y := (3 : UInt8)) rfl rfl))] En56 fun ac58 En59 => ?_
 refine wp_block ?_
 refine d_s [6,7,8,9,16,17] [] En59 fun ac60 En61 => ?_
 refine c_e ((UInt8.toNat (h &&& (3 : UInt8)) : Nat) : Int) (1 : Int) En61 (fun hc62 => ?_) (fun hc62 => ?_)
 ·
  refine region_from ?_
  refine f_o ?_
  refine m_a 2 0 9 (([.bool ((mulP (nv k) Gp).1)] : List Value) ++ ((u64s ((mulP (nv k) Gp).2.1)) ++ (u64s ((mulP (nv k) Gp).2.2)))) En61 Hv57 rfl (load_whole (len_app rfl (len_app (u64s_lenh (mulP_len _ _).1) (u64s_lenh (mulP_len _ _).2)))) (len_app rfl (len_app (u64s_lenh (mulP_len _ _).1) (u64s_lenh (mulP_len _ _).2))) fun ac63 En64 => ?_
  refine f_o ?_
  refine m_g 3 0 9 (([.bool ((mulP (nv k) Gp).1)] : List Value) ++ ((u64s ((mulP (nv k) Gp).2.1)) ++ (u64s ((mulP (nv k) Gp).2.2)))) (([.bool ((mulP (nv k) Gp).1)] : List Value) ++ ((u64s ((mulP (nv k) Gp).2.1)) ++ (u64s ((mulP (nv k) Gp).2.2)))) [.box bk1 (u64s k) 24, .box bk6 (u64s l) 24, .box bk31 (([.bool ((mulP (nv k) Gp).1)] : List Value) ++ ((u64s ((mulP (nv k) Gp).2.1)) ++ (u64s ((mulP (nv k) Gp).2.2)))) 26, .box bk49 (([.bool ((mulP (nv k) Gp).1)] : List Value) ++ ((u64s ((mulP (nv k) Gp).2.1)) ++ (u64s ((mulP (nv k) Gp).2.2)))) 26] En64 Hv57 rfl (len_app rfl (len_app (u64s_lenh (mulP_len _ _).1) (u64s_lenh (mulP_len _ _).2))) (by rw [(len_app rfl (len_app (u64s_lenh (mulP_len _ _).1) (u64s_lenh (mulP_len _ _).2)))]; first | decide | (simp; done)) (one_app (one_all (by kernel_rfl)) (one_app (u64s_one _) (u64s_one _))) (store_whole (len_app rfl (len_app (u64s_lenh (mulP_len _ _).1) (u64s_lenh (mulP_len _ _).2)))) rfl fun ac65 wo66 En67 Hv68 => ?_
  refine f_e ?_
  refine block_normal ?_
  refine then_normal ?_
  refine wp_seq ?_
  refine r_c (fun ac wo => Env ac 52 [(6, .bool true), (8, pt bk31), (9, pt bk49), (16, bv (h &&& (3 : UInt8)))] ∧ Ev w [] wo [.box bk31 (([.bool ((mulP (nv k) Gp).1)] : List Value) ++ ((u64s ((mulP (nv k) Gp).2.1)) ++ (u64s ((mulP (nv k) Gp).2.2)))) 26, .box bk49 (([.bool ((mulP (nv k) Gp).1)] : List Value) ++ ((u64s ((mulP (nv k) Gp).2.1)) ++ (u64s ((mulP (nv k) Gp).2.2)))) 26]) ?_ ?_
  ·
   refine s_g0 [(7, .bool true), (8, pt bk31), (9, pt bk49), (16, bv (h &&& (3 : UInt8)))] [0,1,2,3,4,5,6,7,8,9,10,11,12,13,14,15,16,17,18,19] [(6, .bool true), (33, .bool true), (34, .bool true), (35, .agg (List.toArray (([.bool ((mulP (nv k) Gp).1)] : List Value) ++ ((u64s ((mulP (nv k) Gp).2.1)) ++ (u64s ((mulP (nv k) Gp).2.2)))))), (36, .agg (List.toArray (([.bool ((mulP (nv k) Gp).1)] : List Value) ++ ((u64s ((mulP (nv k) Gp).2.1)) ++ (u64s ((mulP (nv k) Gp).2.2)))))), (37, .agg (List.toArray (([.bool ((addP (mulP (nv k) Gp) (mulP (nv k) Gp)).1)] : List Value) ++ ((u64s ((addP (mulP (nv k) Gp) (mulP (nv k) Gp)).2.1)) ++ (u64s ((addP (mulP (nv k) Gp) (mulP (nv k) Gp)).2.2)))))), (38, .agg (List.toArray (([.bool ((mulP (nv k) Gp).1)] : List Value) ++ ((u64s ((mulP (nv k) Gp).2.1)) ++ (u64s ((mulP (nv k) Gp).2.2)))))), (39, .agg (List.toArray (([.bool ((mulP (nv k) Gp).1)] : List Value) ++ ((u64s ((mulP (nv k) Gp).2.1)) ++ (u64s ((mulP (nv k) Gp).2.2)))))), (40, .agg (List.toArray (([.bool ((addP (mulP (nv k) Gp) (mulP (nv k) Gp)).1)] : List Value) ++ ((u64s ((addP (mulP (nv k) Gp) (mulP (nv k) Gp)).2.1)) ++ (u64s ((addP (mulP (nv k) Gp) (mulP (nv k) Gp)).2.2)))))), (41, .bool true), (42, .bool true), (43, .bool true), (44, .agg (List.toArray (([.bool ((mulP (nv k) Gp).1)] : List Value) ++ ((u64s ((mulP (nv k) Gp).2.1)) ++ (u64s ((mulP (nv k) Gp).2.2)))))), (45, .agg (List.toArray (([.bool ((mulP (nv k) Gp).1)] : List Value) ++ ((u64s ((mulP (nv k) Gp).2.1)) ++ (u64s ((mulP (nv k) Gp).2.2)))))), (46, .agg (List.toArray (([.bool ((addP (mulP (nv k) Gp) (mulP (nv k) Gp)).1)] : List Value) ++ ((u64s ((addP (mulP (nv k) Gp) (mulP (nv k) Gp)).2.1)) ++ (u64s ((addP (mulP (nv k) Gp) (mulP (nv k) Gp)).2.2)))))), (47, .agg (List.toArray (([.bool ((mulP (nv k) Gp).1)] : List Value) ++ ((u64s ((mulP (nv k) Gp).2.1)) ++ (u64s ((mulP (nv k) Gp).2.2)))))), (48, .agg (List.toArray (([.bool ((mulP (nv k) Gp).1)] : List Value) ++ ((u64s ((mulP (nv k) Gp).2.1)) ++ (u64s ((mulP (nv k) Gp).2.2)))))), (49, .agg (List.toArray (([.bool ((addP (mulP (nv k) Gp) (mulP (nv k) Gp)).1)] : List Value) ++ ((u64s ((addP (mulP (nv k) Gp) (mulP (nv k) Gp)).2.1)) ++ (u64s ((addP (mulP (nv k) Gp) (mulP (nv k) Gp)).2.2)))))), (50, .bool true), (51, .bool true)] 0 [(6, .bool true), (8, pt bk31), (9, pt bk49), (16, bv (h &&& (3 : UInt8)))] (En67.sb) (Hv68.trans (Ev.drew Hv68.heap)) ?_ fun ac159 wo160 En161 Hv162 => ?_
   ·
    refine s_p [] ?_
    refine s_p [] ?_
    refine s_a 2 0 9 (([.bool ((mulP (nv k) Gp).1)] : List Value) ++ ((u64s ((mulP (nv k) Gp).2.1)) ++ (u64s ((mulP (nv k) Gp).2.2)))) rfl (load_whole (len_app rfl (len_app (u64s_lenh (mulP_len _ _).1) (u64s_lenh (mulP_len _ _).2)))) (len_app rfl (len_app (u64s_lenh (mulP_len _ _).1) (u64s_lenh (mulP_len _ _).2))) ?_
    refine s_a 3 0 9 (([.bool ((mulP (nv k) Gp).1)] : List Value) ++ ((u64s ((mulP (nv k) Gp).2.1)) ++ (u64s ((mulP (nv k) Gp).2.2)))) rfl (load_whole (len_app rfl (len_app (u64s_lenh (mulP_len _ _).1) (u64s_lenh (mulP_len _ _).2)))) (len_app rfl (len_app (u64s_lenh (mulP_len _ _).1) (u64s_lenh (mulP_len _ _).2))) ?_
    refine s_f (fun _ => padd_go _ ((mulP (nv k) Gp).1) ((mulP (nv k) Gp).2.1) ((mulP (nv k) Gp).2.2) ((mulP_len _ _).1) ((mulP_len _ _).2) ((mulP (nv k) Gp).1) ((mulP (nv k) Gp).2.1) ((mulP (nv k) Gp).2.2) ((mulP_len _ _).1) ((mulP_len _ _).2)) ?_
    refine s_a 2 0 9 (([.bool ((mulP (nv k) Gp).1)] : List Value) ++ ((u64s ((mulP (nv k) Gp).2.1)) ++ (u64s ((mulP (nv k) Gp).2.2)))) rfl (load_whole (len_app rfl (len_app (u64s_lenh (mulP_len _ _).1) (u64s_lenh (mulP_len _ _).2)))) (len_app rfl (len_app (u64s_lenh (mulP_len _ _).1) (u64s_lenh (mulP_len _ _).2))) ?_
    refine s_a 3 0 9 (([.bool ((mulP (nv k) Gp).1)] : List Value) ++ ((u64s ((mulP (nv k) Gp).2.1)) ++ (u64s ((mulP (nv k) Gp).2.2)))) rfl (load_whole (len_app rfl (len_app (u64s_lenh (mulP_len _ _).1) (u64s_lenh (mulP_len _ _).2)))) (len_app rfl (len_app (u64s_lenh (mulP_len _ _).1) (u64s_lenh (mulP_len _ _).2))) ?_
    refine s_f (fun _ => dpadd_go _ ((mulP (nv k) Gp).1) ((mulP (nv k) Gp).2.1) ((mulP (nv k) Gp).2.2) ((mulP_len _ _).1) ((mulP_len _ _).2) ((mulP (nv k) Gp).1) ((mulP (nv k) Gp).2.1) ((mulP (nv k) Gp).2.2) ((mulP_len _ _).1) ((mulP_len _ _).2)) ?_
    refine s_c (fun Mx107 ac108 wo109 En110 Hv111 => ?_) ?_
    ·
     refine q_v (x := eqOp .eql 26 (.tmp 37) (.tmp 40) (.agg (List.toArray (([.bool ((addP (mulP (nv k) Gp) (mulP (nv k) Gp)).1)] : List Value) ++ ((u64s ((addP (mulP (nv k) Gp) (mulP (nv k) Gp)).2.1)) ++ (u64s ((addP (mulP (nv k) Gp) (mulP (nv k) Gp)).2.2)))))) (.agg (List.toArray (([.bool ((addP (mulP (nv k) Gp) (mulP (nv k) Gp)).1)] : List Value) ++ ((u64s ((addP (mulP (nv k) Gp) (mulP (nv k) Gp)).2.1)) ++ (u64s ((addP (mulP (nv k) Gp) (mulP (nv k) Gp)).2.2))))))) (v := .bool true) En110 (Go.Dbr.run_is (fun w => Go.Dbr.pnt_eqop (a := (.tmp 37)) (b := (.tmp 40)) isP (addP_len _ _).1 (addP_len _ _).2 (addP_len _ _).1 (addP_len _ _).2 w) (pzeq rfl) _) fun ac112 En113 => ?_
     exact s_e En113 Hv111
    refine s_p [] ?_
    refine s_p [] ?_
    refine s_a 3 0 9 (([.bool ((mulP (nv k) Gp).1)] : List Value) ++ ((u64s ((mulP (nv k) Gp).2.1)) ++ (u64s ((mulP (nv k) Gp).2.2)))) rfl (load_whole (len_app rfl (len_app (u64s_lenh (mulP_len _ _).1) (u64s_lenh (mulP_len _ _).2)))) (len_app rfl (len_app (u64s_lenh (mulP_len _ _).1) (u64s_lenh (mulP_len _ _).2))) ?_
    refine s_a 2 0 9 (([.bool ((mulP (nv k) Gp).1)] : List Value) ++ ((u64s ((mulP (nv k) Gp).2.1)) ++ (u64s ((mulP (nv k) Gp).2.2)))) rfl (load_whole (len_app rfl (len_app (u64s_lenh (mulP_len _ _).1) (u64s_lenh (mulP_len _ _).2)))) (len_app rfl (len_app (u64s_lenh (mulP_len _ _).1) (u64s_lenh (mulP_len _ _).2))) ?_
    refine s_f (fun _ => padd_go _ ((mulP (nv k) Gp).1) ((mulP (nv k) Gp).2.1) ((mulP (nv k) Gp).2.2) ((mulP_len _ _).1) ((mulP_len _ _).2) ((mulP (nv k) Gp).1) ((mulP (nv k) Gp).2.1) ((mulP (nv k) Gp).2.2) ((mulP_len _ _).1) ((mulP_len _ _).2)) ?_
    refine s_a 3 0 9 (([.bool ((mulP (nv k) Gp).1)] : List Value) ++ ((u64s ((mulP (nv k) Gp).2.1)) ++ (u64s ((mulP (nv k) Gp).2.2)))) rfl (load_whole (len_app rfl (len_app (u64s_lenh (mulP_len _ _).1) (u64s_lenh (mulP_len _ _).2)))) (len_app rfl (len_app (u64s_lenh (mulP_len _ _).1) (u64s_lenh (mulP_len _ _).2))) ?_
    refine s_a 2 0 9 (([.bool ((mulP (nv k) Gp).1)] : List Value) ++ ((u64s ((mulP (nv k) Gp).2.1)) ++ (u64s ((mulP (nv k) Gp).2.2)))) rfl (load_whole (len_app rfl (len_app (u64s_lenh (mulP_len _ _).1) (u64s_lenh (mulP_len _ _).2)))) (len_app rfl (len_app (u64s_lenh (mulP_len _ _).1) (u64s_lenh (mulP_len _ _).2))) ?_
    refine s_f (fun _ => dpadd_go _ ((mulP (nv k) Gp).1) ((mulP (nv k) Gp).2.1) ((mulP (nv k) Gp).2.2) ((mulP_len _ _).1) ((mulP_len _ _).2) ((mulP (nv k) Gp).1) ((mulP (nv k) Gp).2.1) ((mulP (nv k) Gp).2.2) ((mulP_len _ _).1) ((mulP_len _ _).2)) ?_
    refine s_c (fun Mx152 ac153 wo154 En155 Hv156 => ?_) ?_
    ·
     refine q_v (x := eqOp .eql 26 (.tmp 46) (.tmp 49) (.agg (List.toArray (([.bool ((addP (mulP (nv k) Gp) (mulP (nv k) Gp)).1)] : List Value) ++ ((u64s ((addP (mulP (nv k) Gp) (mulP (nv k) Gp)).2.1)) ++ (u64s ((addP (mulP (nv k) Gp) (mulP (nv k) Gp)).2.2)))))) (.agg (List.toArray (([.bool ((addP (mulP (nv k) Gp) (mulP (nv k) Gp)).1)] : List Value) ++ ((u64s ((addP (mulP (nv k) Gp) (mulP (nv k) Gp)).2.1)) ++ (u64s ((addP (mulP (nv k) Gp) (mulP (nv k) Gp)).2.2))))))) (v := .bool true) En155 (Go.Dbr.run_is (fun w => Go.Dbr.pnt_eqop (a := (.tmp 46)) (b := (.tmp 49)) isP (addP_len _ _).1 (addP_len _ _).2 (addP_len _ _).1 (addP_len _ _).2 w) (pzeq rfl) _) fun ac157 En158 => ?_
     exact s_e En158 Hv156
    refine s_p [] ?_
    refine s_p [] ?_
    exact s_n
   exact a_e ⟨En161.sb, Hv162.pk [2, 3]⟩
  rintro ac163 wo164 ⟨En165, Hv166⟩
  refine then_normal ?_
  refine wp_ret ?_
  refine d_ret1 (t := 6) (v := .bool true) En165 (by kernel_rfl) (by kernel_rfl) ?_
  exact ⟨by first | rfl | kernel_rfl, Hv166.pk []⟩
 ·
  refine d_s [6,7,8,9,16,20] [] En61 fun ac167 En168 => ?_
  refine c_e ((UInt8.toNat (h &&& (3 : UInt8)) : Nat) : Int) (2 : Int) En168 (fun hc169 => ?_) (fun hc169 => ?_)
  ·
   refine wp_seq ?_
   refine region_from ?_
   refine f_o ?_
   refine m_a 2 0 9 (([.bool ((mulP (nv k) Gp).1)] : List Value) ++ ((u64s ((mulP (nv k) Gp).2.1)) ++ (u64s ((mulP (nv k) Gp).2.2)))) En168 Hv57 rfl (load_whole (len_app rfl (len_app (u64s_lenh (mulP_len _ _).1) (u64s_lenh (mulP_len _ _).2)))) (len_app rfl (len_app (u64s_lenh (mulP_len _ _).1) (u64s_lenh (mulP_len _ _).2))) fun ac170 En171 => ?_
   refine f_o ?_
   refine m_g 3 0 9 (([.bool ((mulP (nv k) Gp).1)] : List Value) ++ ((u64s ((mulP (nv k) Gp).2.1)) ++ (u64s ((mulP (nv k) Gp).2.2)))) (([.bool ((mulP (nv k) Gp).1)] : List Value) ++ ((u64s ((mulP (nv k) Gp).2.1)) ++ (u64s ((mulP (nv k) Gp).2.2)))) [.box bk1 (u64s k) 24, .box bk6 (u64s l) 24, .box bk31 (([.bool ((mulP (nv k) Gp).1)] : List Value) ++ ((u64s ((mulP (nv k) Gp).2.1)) ++ (u64s ((mulP (nv k) Gp).2.2)))) 26, .box bk49 (([.bool ((mulP (nv k) Gp).1)] : List Value) ++ ((u64s ((mulP (nv k) Gp).2.1)) ++ (u64s ((mulP (nv k) Gp).2.2)))) 26] En171 Hv57 rfl (len_app rfl (len_app (u64s_lenh (mulP_len _ _).1) (u64s_lenh (mulP_len _ _).2))) (by rw [(len_app rfl (len_app (u64s_lenh (mulP_len _ _).1) (u64s_lenh (mulP_len _ _).2)))]; first | decide | (simp; done)) (one_app (one_all (by kernel_rfl)) (one_app (u64s_one _) (u64s_one _))) (store_whole (len_app rfl (len_app (u64s_lenh (mulP_len _ _).1) (u64s_lenh (mulP_len _ _).2)))) rfl fun ac172 wo173 En174 Hv175 => ?_
   refine f_e ?_
   refine then_normal ?_
   refine wp_seq ?_
   refine region_from ?_
   refine d_k [6,7,8,9,16,23] [] 1 En174 fun ac176 En177 => ?_
   refine f_o ?_
   refine m_v 3 0 (.bool ((mulP (nv k) Gp).1)) En177 Hv175 rfl (seg_in rfl) fun ac178 En179 => ?_
   refine d_e [6,7,8,9,16,25] [] En179 fun ac180 En181 => ?_
   refine then_normal ?_
   refine cond_at En181 (t := !((mulP (nv k) Gp).1)) (by kernel_rfl) (fun hc182 => ?_) (fun hc182 => ?_)
   ·
    replace hc182 : ¬ ((mulP (nv k) Gp).1 = true) := by simpa using hc182
    refine region_from ?_
    refine d_k [6,7,8,9,16,26] [] 1 En181 fun ac183 En184 => ?_
    refine f_o ?_
    refine m_a 3 5 4 (u64s ((mulP (nv k) Gp).2.2)) En184 Hv175 rfl (by simp [u64s_lenh (mulP_len _ _).1, u64s_lenh (mulP_len _ _).2, List.drop_append, List.take_append, List.take_of_length_le]) (u64s_lenh (mulP_len _ _).2) fun ac185 En186 => ?_
    refine f_o ?_
    refine c_p En186 Hv175 (rneg_go _ 2 h2f hL2 ((mulP (nv k) Gp).2.2) (mulP_len _ _).2) fun ac191 wo188 En192 Hv193 => ?_
    refine d_k [6,7,8,9,16,28,29] [] 4 En192 fun ac194 En195 => ?_
    refine f_o ?_
    refine m_g 3 5 4 (u64s (nd (subM 2 0 (nv ((mulP (nv k) Gp).2.2))))) (([.bool ((mulP (nv k) Gp).1)] : List Value) ++ ((u64s ((mulP (nv k) Gp).2.1)) ++ (u64s (nd (subM 2 0 (nv ((mulP (nv k) Gp).2.2))))))) [.box bk1 (u64s k) 24, .box bk6 (u64s l) 24, .box bk31 (([.bool ((mulP (nv k) Gp).1)] : List Value) ++ ((u64s ((mulP (nv k) Gp).2.1)) ++ (u64s ((mulP (nv k) Gp).2.2)))) 26, .box bk49 (([.bool ((mulP (nv k) Gp).1)] : List Value) ++ ((u64s ((mulP (nv k) Gp).2.1)) ++ (u64s (nd (subM 2 0 (nv ((mulP (nv k) Gp).2.2))))))) 26] En195 Hv193 rfl (u64s_lenh (nds_len _ _)) (by rw [(len_app rfl (len_app (u64s_lenh (mulP_len _ _).1) (u64s_lenh (mulP_len _ _).2)))]; first | decide | (simp; done)) (u64s_one _) (by simp [u64s_lenh (mulP_len _ _).1, u64s_lenh (mulP_len _ _).2, List.drop_append, List.take_append]) rfl fun ac196 wo197 En198 Hv199 => ?_
    refine f_e ?_
    refine block_normal ?_
    refine then_normal ?_
    refine wp_seq ?_
    refine r_c (fun ac wo => Env ac 52 [(6, .bool true), (8, pt bk31), (9, pt bk49), (16, bv (h &&& (3 : UInt8)))] ∧ Ev w [] wo [.box bk31 (([.bool ((mulP (nv k) Gp).1)] : List Value) ++ ((u64s ((mulP (nv k) Gp).2.1)) ++ (u64s ((mulP (nv k) Gp).2.2)))) 26, .box bk49 (([.bool ((mulP (nv k) Gp).1)] : List Value) ++ ((u64s ((mulP (nv k) Gp).2.1)) ++ (u64s (nd (subM 2 0 (nv ((mulP (nv k) Gp).2.2))))))) 26]) ?_ ?_
    ·
     refine s_g0 [(7, .bool true), (8, pt bk31), (9, pt bk49), (16, bv (h &&& (3 : UInt8)))] [0,1,2,3,4,5,6,7,8,9,10,11,12,13,14,15,16,17,18,19] [(6, .bool true), (33, .bool true), (34, .bool true), (35, .agg (List.toArray (([.bool ((mulP (nv k) Gp).1)] : List Value) ++ ((u64s ((mulP (nv k) Gp).2.1)) ++ (u64s ((mulP (nv k) Gp).2.2)))))), (36, .agg (List.toArray (([.bool ((mulP (nv k) Gp).1)] : List Value) ++ ((u64s ((mulP (nv k) Gp).2.1)) ++ (u64s (nd (subM 2 0 (nv ((mulP (nv k) Gp).2.2))))))))), (37, .agg (List.toArray (([.bool ((addP (mulP (nv k) Gp) ((mulP (nv k) Gp).1, (mulP (nv k) Gp).2.1, nd (subM 2 0 (nv ((mulP (nv k) Gp).2.2))))).1)] : List Value) ++ ((u64s ((addP (mulP (nv k) Gp) ((mulP (nv k) Gp).1, (mulP (nv k) Gp).2.1, nd (subM 2 0 (nv ((mulP (nv k) Gp).2.2))))).2.1)) ++ (u64s ((addP (mulP (nv k) Gp) ((mulP (nv k) Gp).1, (mulP (nv k) Gp).2.1, nd (subM 2 0 (nv ((mulP (nv k) Gp).2.2))))).2.2)))))), (38, .agg (List.toArray (([.bool ((mulP (nv k) Gp).1)] : List Value) ++ ((u64s ((mulP (nv k) Gp).2.1)) ++ (u64s ((mulP (nv k) Gp).2.2)))))), (39, .agg (List.toArray (([.bool ((mulP (nv k) Gp).1)] : List Value) ++ ((u64s ((mulP (nv k) Gp).2.1)) ++ (u64s (nd (subM 2 0 (nv ((mulP (nv k) Gp).2.2))))))))), (40, .agg (List.toArray (([.bool ((addP (mulP (nv k) Gp) ((mulP (nv k) Gp).1, (mulP (nv k) Gp).2.1, nd (subM 2 0 (nv ((mulP (nv k) Gp).2.2))))).1)] : List Value) ++ ((u64s ((addP (mulP (nv k) Gp) ((mulP (nv k) Gp).1, (mulP (nv k) Gp).2.1, nd (subM 2 0 (nv ((mulP (nv k) Gp).2.2))))).2.1)) ++ (u64s ((addP (mulP (nv k) Gp) ((mulP (nv k) Gp).1, (mulP (nv k) Gp).2.1, nd (subM 2 0 (nv ((mulP (nv k) Gp).2.2))))).2.2)))))), (41, .bool true), (42, .bool true), (43, .bool true), (44, .agg (List.toArray (([.bool ((mulP (nv k) Gp).1)] : List Value) ++ ((u64s ((mulP (nv k) Gp).2.1)) ++ (u64s (nd (subM 2 0 (nv ((mulP (nv k) Gp).2.2))))))))), (45, .agg (List.toArray (([.bool ((mulP (nv k) Gp).1)] : List Value) ++ ((u64s ((mulP (nv k) Gp).2.1)) ++ (u64s ((mulP (nv k) Gp).2.2)))))), (46, .agg (List.toArray (([.bool ((addP ((mulP (nv k) Gp).1, (mulP (nv k) Gp).2.1, nd (subM 2 0 (nv ((mulP (nv k) Gp).2.2)))) (mulP (nv k) Gp)).1)] : List Value) ++ ((u64s ((addP ((mulP (nv k) Gp).1, (mulP (nv k) Gp).2.1, nd (subM 2 0 (nv ((mulP (nv k) Gp).2.2)))) (mulP (nv k) Gp)).2.1)) ++ (u64s ((addP ((mulP (nv k) Gp).1, (mulP (nv k) Gp).2.1, nd (subM 2 0 (nv ((mulP (nv k) Gp).2.2)))) (mulP (nv k) Gp)).2.2)))))), (47, .agg (List.toArray (([.bool ((mulP (nv k) Gp).1)] : List Value) ++ ((u64s ((mulP (nv k) Gp).2.1)) ++ (u64s (nd (subM 2 0 (nv ((mulP (nv k) Gp).2.2))))))))), (48, .agg (List.toArray (([.bool ((mulP (nv k) Gp).1)] : List Value) ++ ((u64s ((mulP (nv k) Gp).2.1)) ++ (u64s ((mulP (nv k) Gp).2.2)))))), (49, .agg (List.toArray (([.bool ((addP ((mulP (nv k) Gp).1, (mulP (nv k) Gp).2.1, nd (subM 2 0 (nv ((mulP (nv k) Gp).2.2)))) (mulP (nv k) Gp)).1)] : List Value) ++ ((u64s ((addP ((mulP (nv k) Gp).1, (mulP (nv k) Gp).2.1, nd (subM 2 0 (nv ((mulP (nv k) Gp).2.2)))) (mulP (nv k) Gp)).2.1)) ++ (u64s ((addP ((mulP (nv k) Gp).1, (mulP (nv k) Gp).2.1, nd (subM 2 0 (nv ((mulP (nv k) Gp).2.2)))) (mulP (nv k) Gp)).2.2)))))), (50, .bool true), (51, .bool true)] 0 [(6, .bool true), (8, pt bk31), (9, pt bk49), (16, bv (h &&& (3 : UInt8)))] (En198.sb) (Hv199.trans (Ev.drew Hv199.heap)) ?_ fun ac290 wo291 En292 Hv293 => ?_
     ·
      refine s_p [] ?_
      refine s_p [] ?_
      refine s_a 2 0 9 (([.bool ((mulP (nv k) Gp).1)] : List Value) ++ ((u64s ((mulP (nv k) Gp).2.1)) ++ (u64s ((mulP (nv k) Gp).2.2)))) rfl (load_whole (len_app rfl (len_app (u64s_lenh (mulP_len _ _).1) (u64s_lenh (mulP_len _ _).2)))) (len_app rfl (len_app (u64s_lenh (mulP_len _ _).1) (u64s_lenh (mulP_len _ _).2))) ?_
      refine s_a 3 0 9 (([.bool ((mulP (nv k) Gp).1)] : List Value) ++ ((u64s ((mulP (nv k) Gp).2.1)) ++ (u64s (nd (subM 2 0 (nv ((mulP (nv k) Gp).2.2))))))) rfl (load_whole (len_app rfl (len_app (u64s_lenh (mulP_len _ _).1) (u64s_lenh (nds_len _ _))))) (len_app rfl (len_app (u64s_lenh (mulP_len _ _).1) (u64s_lenh (nds_len _ _)))) ?_
      refine s_f (fun _ => padd_go _ ((mulP (nv k) Gp).1) ((mulP (nv k) Gp).2.1) ((mulP (nv k) Gp).2.2) ((mulP_len _ _).1) ((mulP_len _ _).2) ((mulP (nv k) Gp).1) ((mulP (nv k) Gp).2.1) (nd (subM 2 0 (nv ((mulP (nv k) Gp).2.2)))) ((mulP_len _ _).1) (nds_len _ _)) ?_
      refine s_a 2 0 9 (([.bool ((mulP (nv k) Gp).1)] : List Value) ++ ((u64s ((mulP (nv k) Gp).2.1)) ++ (u64s ((mulP (nv k) Gp).2.2)))) rfl (load_whole (len_app rfl (len_app (u64s_lenh (mulP_len _ _).1) (u64s_lenh (mulP_len _ _).2)))) (len_app rfl (len_app (u64s_lenh (mulP_len _ _).1) (u64s_lenh (mulP_len _ _).2))) ?_
      refine s_a 3 0 9 (([.bool ((mulP (nv k) Gp).1)] : List Value) ++ ((u64s ((mulP (nv k) Gp).2.1)) ++ (u64s (nd (subM 2 0 (nv ((mulP (nv k) Gp).2.2))))))) rfl (load_whole (len_app rfl (len_app (u64s_lenh (mulP_len _ _).1) (u64s_lenh (nds_len _ _))))) (len_app rfl (len_app (u64s_lenh (mulP_len _ _).1) (u64s_lenh (nds_len _ _)))) ?_
      refine s_f (fun _ => dpadd_go _ ((mulP (nv k) Gp).1) ((mulP (nv k) Gp).2.1) ((mulP (nv k) Gp).2.2) ((mulP_len _ _).1) ((mulP_len _ _).2) ((mulP (nv k) Gp).1) ((mulP (nv k) Gp).2.1) (nd (subM 2 0 (nv ((mulP (nv k) Gp).2.2)))) ((mulP_len _ _).1) (nds_len _ _)) ?_
      refine s_c (fun Mx238 ac239 wo240 En241 Hv242 => ?_) ?_
      ·
       refine q_v (x := eqOp .eql 26 (.tmp 37) (.tmp 40) (.agg (List.toArray (([.bool ((addP (mulP (nv k) Gp) ((mulP (nv k) Gp).1, (mulP (nv k) Gp).2.1, nd (subM 2 0 (nv ((mulP (nv k) Gp).2.2))))).1)] : List Value) ++ ((u64s ((addP (mulP (nv k) Gp) ((mulP (nv k) Gp).1, (mulP (nv k) Gp).2.1, nd (subM 2 0 (nv ((mulP (nv k) Gp).2.2))))).2.1)) ++ (u64s ((addP (mulP (nv k) Gp) ((mulP (nv k) Gp).1, (mulP (nv k) Gp).2.1, nd (subM 2 0 (nv ((mulP (nv k) Gp).2.2))))).2.2)))))) (.agg (List.toArray (([.bool ((addP (mulP (nv k) Gp) ((mulP (nv k) Gp).1, (mulP (nv k) Gp).2.1, nd (subM 2 0 (nv ((mulP (nv k) Gp).2.2))))).1)] : List Value) ++ ((u64s ((addP (mulP (nv k) Gp) ((mulP (nv k) Gp).1, (mulP (nv k) Gp).2.1, nd (subM 2 0 (nv ((mulP (nv k) Gp).2.2))))).2.1)) ++ (u64s ((addP (mulP (nv k) Gp) ((mulP (nv k) Gp).1, (mulP (nv k) Gp).2.1, nd (subM 2 0 (nv ((mulP (nv k) Gp).2.2))))).2.2))))))) (v := .bool true) En241 (Go.Dbr.run_is (fun w => Go.Dbr.pnt_eqop (a := (.tmp 37)) (b := (.tmp 40)) isP (addP_len _ _).1 (addP_len _ _).2 (addP_len _ _).1 (addP_len _ _).2 w) (pzeq rfl) _) fun ac243 En244 => ?_
       exact s_e En244 Hv242
      refine s_p [] ?_
      refine s_p [] ?_
      refine s_a 3 0 9 (([.bool ((mulP (nv k) Gp).1)] : List Value) ++ ((u64s ((mulP (nv k) Gp).2.1)) ++ (u64s (nd (subM 2 0 (nv ((mulP (nv k) Gp).2.2))))))) rfl (load_whole (len_app rfl (len_app (u64s_lenh (mulP_len _ _).1) (u64s_lenh (nds_len _ _))))) (len_app rfl (len_app (u64s_lenh (mulP_len _ _).1) (u64s_lenh (nds_len _ _)))) ?_
      refine s_a 2 0 9 (([.bool ((mulP (nv k) Gp).1)] : List Value) ++ ((u64s ((mulP (nv k) Gp).2.1)) ++ (u64s ((mulP (nv k) Gp).2.2)))) rfl (load_whole (len_app rfl (len_app (u64s_lenh (mulP_len _ _).1) (u64s_lenh (mulP_len _ _).2)))) (len_app rfl (len_app (u64s_lenh (mulP_len _ _).1) (u64s_lenh (mulP_len _ _).2))) ?_
      refine s_f (fun _ => padd_go _ ((mulP (nv k) Gp).1) ((mulP (nv k) Gp).2.1) (nd (subM 2 0 (nv ((mulP (nv k) Gp).2.2)))) ((mulP_len _ _).1) (nds_len _ _) ((mulP (nv k) Gp).1) ((mulP (nv k) Gp).2.1) ((mulP (nv k) Gp).2.2) ((mulP_len _ _).1) ((mulP_len _ _).2)) ?_
      refine s_a 3 0 9 (([.bool ((mulP (nv k) Gp).1)] : List Value) ++ ((u64s ((mulP (nv k) Gp).2.1)) ++ (u64s (nd (subM 2 0 (nv ((mulP (nv k) Gp).2.2))))))) rfl (load_whole (len_app rfl (len_app (u64s_lenh (mulP_len _ _).1) (u64s_lenh (nds_len _ _))))) (len_app rfl (len_app (u64s_lenh (mulP_len _ _).1) (u64s_lenh (nds_len _ _)))) ?_
      refine s_a 2 0 9 (([.bool ((mulP (nv k) Gp).1)] : List Value) ++ ((u64s ((mulP (nv k) Gp).2.1)) ++ (u64s ((mulP (nv k) Gp).2.2)))) rfl (load_whole (len_app rfl (len_app (u64s_lenh (mulP_len _ _).1) (u64s_lenh (mulP_len _ _).2)))) (len_app rfl (len_app (u64s_lenh (mulP_len _ _).1) (u64s_lenh (mulP_len _ _).2))) ?_
      refine s_f (fun _ => dpadd_go _ ((mulP (nv k) Gp).1) ((mulP (nv k) Gp).2.1) (nd (subM 2 0 (nv ((mulP (nv k) Gp).2.2)))) ((mulP_len _ _).1) (nds_len _ _) ((mulP (nv k) Gp).1) ((mulP (nv k) Gp).2.1) ((mulP (nv k) Gp).2.2) ((mulP_len _ _).1) ((mulP_len _ _).2)) ?_
      refine s_c (fun Mx283 ac284 wo285 En286 Hv287 => ?_) ?_
      ·
       refine q_v (x := eqOp .eql 26 (.tmp 46) (.tmp 49) (.agg (List.toArray (([.bool ((addP ((mulP (nv k) Gp).1, (mulP (nv k) Gp).2.1, nd (subM 2 0 (nv ((mulP (nv k) Gp).2.2)))) (mulP (nv k) Gp)).1)] : List Value) ++ ((u64s ((addP ((mulP (nv k) Gp).1, (mulP (nv k) Gp).2.1, nd (subM 2 0 (nv ((mulP (nv k) Gp).2.2)))) (mulP (nv k) Gp)).2.1)) ++ (u64s ((addP ((mulP (nv k) Gp).1, (mulP (nv k) Gp).2.1, nd (subM 2 0 (nv ((mulP (nv k) Gp).2.2)))) (mulP (nv k) Gp)).2.2)))))) (.agg (List.toArray (([.bool ((addP ((mulP (nv k) Gp).1, (mulP (nv k) Gp).2.1, nd (subM 2 0 (nv ((mulP (nv k) Gp).2.2)))) (mulP (nv k) Gp)).1)] : List Value) ++ ((u64s ((addP ((mulP (nv k) Gp).1, (mulP (nv k) Gp).2.1, nd (subM 2 0 (nv ((mulP (nv k) Gp).2.2)))) (mulP (nv k) Gp)).2.1)) ++ (u64s ((addP ((mulP (nv k) Gp).1, (mulP (nv k) Gp).2.1, nd (subM 2 0 (nv ((mulP (nv k) Gp).2.2)))) (mulP (nv k) Gp)).2.2))))))) (v := .bool true) En286 (Go.Dbr.run_is (fun w => Go.Dbr.pnt_eqop (a := (.tmp 46)) (b := (.tmp 49)) isP (addP_len _ _).1 (addP_len _ _).2 (addP_len _ _).1 (addP_len _ _).2 w) (pzeq rfl) _) fun ac288 En289 => ?_
       exact s_e En289 Hv287
      refine s_p [] ?_
      refine s_p [] ?_
      exact s_n
     exact a_e ⟨En292.sb, Hv293.pk [2, 3]⟩
    rintro ac294 wo295 ⟨En296, Hv297⟩
    refine then_normal ?_
    refine wp_ret ?_
    refine d_ret1 (t := 6) (v := .bool true) En296 (by kernel_rfl) (by kernel_rfl) ?_
    exact ⟨by first | rfl | kernel_rfl, Hv297.pk []⟩
   ·
    replace hc182 : (mulP (nv k) Gp).1 = true := by simpa using hc182
    refine wp_skip ?_
    refine block_normal ?_
    refine then_normal ?_
    refine wp_seq ?_
    refine r_c (fun ac wo => Env ac 52 [(6, .bool true), (8, pt bk31), (9, pt bk49), (16, bv (h &&& (3 : UInt8)))] ∧ Ev w [] wo [.box bk31 (([.bool ((mulP (nv k) Gp).1)] : List Value) ++ ((u64s ((mulP (nv k) Gp).2.1)) ++ (u64s ((mulP (nv k) Gp).2.2)))) 26, .box bk49 (([.bool ((mulP (nv k) Gp).1)] : List Value) ++ ((u64s ((mulP (nv k) Gp).2.1)) ++ (u64s ((mulP (nv k) Gp).2.2)))) 26]) ?_ ?_
    ·
     refine s_g0 [(7, .bool true), (8, pt bk31), (9, pt bk49), (16, bv (h &&& (3 : UInt8)))] [0,1,2,3,4,5,6,7,8,9,10,11,12,13,14,15,16,17,18,19] [(6, .bool true), (33, .bool true), (34, .bool true), (35, .agg (List.toArray (([.bool ((mulP (nv k) Gp).1)] : List Value) ++ ((u64s ((mulP (nv k) Gp).2.1)) ++ (u64s ((mulP (nv k) Gp).2.2)))))), (36, .agg (List.toArray (([.bool ((mulP (nv k) Gp).1)] : List Value) ++ ((u64s ((mulP (nv k) Gp).2.1)) ++ (u64s ((mulP (nv k) Gp).2.2)))))), (37, .agg (List.toArray (([.bool ((addP (mulP (nv k) Gp) (mulP (nv k) Gp)).1)] : List Value) ++ ((u64s ((addP (mulP (nv k) Gp) (mulP (nv k) Gp)).2.1)) ++ (u64s ((addP (mulP (nv k) Gp) (mulP (nv k) Gp)).2.2)))))), (38, .agg (List.toArray (([.bool ((mulP (nv k) Gp).1)] : List Value) ++ ((u64s ((mulP (nv k) Gp).2.1)) ++ (u64s ((mulP (nv k) Gp).2.2)))))), (39, .agg (List.toArray (([.bool ((mulP (nv k) Gp).1)] : List Value) ++ ((u64s ((mulP (nv k) Gp).2.1)) ++ (u64s ((mulP (nv k) Gp).2.2)))))), (40, .agg (List.toArray (([.bool ((addP (mulP (nv k) Gp) (mulP (nv k) Gp)).1)] : List Value) ++ ((u64s ((addP (mulP (nv k) Gp) (mulP (nv k) Gp)).2.1)) ++ (u64s ((addP (mulP (nv k) Gp) (mulP (nv k) Gp)).2.2)))))), (41, .bool true), (42, .bool true), (43, .bool true), (44, .agg (List.toArray (([.bool ((mulP (nv k) Gp).1)] : List Value) ++ ((u64s ((mulP (nv k) Gp).2.1)) ++ (u64s ((mulP (nv k) Gp).2.2)))))), (45, .agg (List.toArray (([.bool ((mulP (nv k) Gp).1)] : List Value) ++ ((u64s ((mulP (nv k) Gp).2.1)) ++ (u64s ((mulP (nv k) Gp).2.2)))))), (46, .agg (List.toArray (([.bool ((addP (mulP (nv k) Gp) (mulP (nv k) Gp)).1)] : List Value) ++ ((u64s ((addP (mulP (nv k) Gp) (mulP (nv k) Gp)).2.1)) ++ (u64s ((addP (mulP (nv k) Gp) (mulP (nv k) Gp)).2.2)))))), (47, .agg (List.toArray (([.bool ((mulP (nv k) Gp).1)] : List Value) ++ ((u64s ((mulP (nv k) Gp).2.1)) ++ (u64s ((mulP (nv k) Gp).2.2)))))), (48, .agg (List.toArray (([.bool ((mulP (nv k) Gp).1)] : List Value) ++ ((u64s ((mulP (nv k) Gp).2.1)) ++ (u64s ((mulP (nv k) Gp).2.2)))))), (49, .agg (List.toArray (([.bool ((addP (mulP (nv k) Gp) (mulP (nv k) Gp)).1)] : List Value) ++ ((u64s ((addP (mulP (nv k) Gp) (mulP (nv k) Gp)).2.1)) ++ (u64s ((addP (mulP (nv k) Gp) (mulP (nv k) Gp)).2.2)))))), (50, .bool true), (51, .bool true)] 0 [(6, .bool true), (8, pt bk31), (9, pt bk49), (16, bv (h &&& (3 : UInt8)))] (En181.sb) (Hv175.trans (Ev.drew Hv175.heap)) ?_ fun ac388 wo389 En390 Hv391 => ?_
     ·
      refine s_p [] ?_
      refine s_p [] ?_
      refine s_a 2 0 9 (([.bool ((mulP (nv k) Gp).1)] : List Value) ++ ((u64s ((mulP (nv k) Gp).2.1)) ++ (u64s ((mulP (nv k) Gp).2.2)))) rfl (load_whole (len_app rfl (len_app (u64s_lenh (mulP_len _ _).1) (u64s_lenh (mulP_len _ _).2)))) (len_app rfl (len_app (u64s_lenh (mulP_len _ _).1) (u64s_lenh (mulP_len _ _).2))) ?_
      refine s_a 3 0 9 (([.bool ((mulP (nv k) Gp).1)] : List Value) ++ ((u64s ((mulP (nv k) Gp).2.1)) ++ (u64s ((mulP (nv k) Gp).2.2)))) rfl (load_whole (len_app rfl (len_app (u64s_lenh (mulP_len _ _).1) (u64s_lenh (mulP_len _ _).2)))) (len_app rfl (len_app (u64s_lenh (mulP_len _ _).1) (u64s_lenh (mulP_len _ _).2))) ?_
      refine s_f (fun _ => padd_go _ ((mulP (nv k) Gp).1) ((mulP (nv k) Gp).2.1) ((mulP (nv k) Gp).2.2) ((mulP_len _ _).1) ((mulP_len _ _).2) ((mulP (nv k) Gp).1) ((mulP (nv k) Gp).2.1) ((mulP (nv k) Gp).2.2) ((mulP_len _ _).1) ((mulP_len _ _).2)) ?_
      refine s_a 2 0 9 (([.bool ((mulP (nv k) Gp).1)] : List Value) ++ ((u64s ((mulP (nv k) Gp).2.1)) ++ (u64s ((mulP (nv k) Gp).2.2)))) rfl (load_whole (len_app rfl (len_app (u64s_lenh (mulP_len _ _).1) (u64s_lenh (mulP_len _ _).2)))) (len_app rfl (len_app (u64s_lenh (mulP_len _ _).1) (u64s_lenh (mulP_len _ _).2))) ?_
      refine s_a 3 0 9 (([.bool ((mulP (nv k) Gp).1)] : List Value) ++ ((u64s ((mulP (nv k) Gp).2.1)) ++ (u64s ((mulP (nv k) Gp).2.2)))) rfl (load_whole (len_app rfl (len_app (u64s_lenh (mulP_len _ _).1) (u64s_lenh (mulP_len _ _).2)))) (len_app rfl (len_app (u64s_lenh (mulP_len _ _).1) (u64s_lenh (mulP_len _ _).2))) ?_
      refine s_f (fun _ => dpadd_go _ ((mulP (nv k) Gp).1) ((mulP (nv k) Gp).2.1) ((mulP (nv k) Gp).2.2) ((mulP_len _ _).1) ((mulP_len _ _).2) ((mulP (nv k) Gp).1) ((mulP (nv k) Gp).2.1) ((mulP (nv k) Gp).2.2) ((mulP_len _ _).1) ((mulP_len _ _).2)) ?_
      refine s_c (fun Mx336 ac337 wo338 En339 Hv340 => ?_) ?_
      ·
       refine q_v (x := eqOp .eql 26 (.tmp 37) (.tmp 40) (.agg (List.toArray (([.bool ((addP (mulP (nv k) Gp) (mulP (nv k) Gp)).1)] : List Value) ++ ((u64s ((addP (mulP (nv k) Gp) (mulP (nv k) Gp)).2.1)) ++ (u64s ((addP (mulP (nv k) Gp) (mulP (nv k) Gp)).2.2)))))) (.agg (List.toArray (([.bool ((addP (mulP (nv k) Gp) (mulP (nv k) Gp)).1)] : List Value) ++ ((u64s ((addP (mulP (nv k) Gp) (mulP (nv k) Gp)).2.1)) ++ (u64s ((addP (mulP (nv k) Gp) (mulP (nv k) Gp)).2.2))))))) (v := .bool true) En339 (Go.Dbr.run_is (fun w => Go.Dbr.pnt_eqop (a := (.tmp 37)) (b := (.tmp 40)) isP (addP_len _ _).1 (addP_len _ _).2 (addP_len _ _).1 (addP_len _ _).2 w) (pzeq rfl) _) fun ac341 En342 => ?_
       exact s_e En342 Hv340
      refine s_p [] ?_
      refine s_p [] ?_
      refine s_a 3 0 9 (([.bool ((mulP (nv k) Gp).1)] : List Value) ++ ((u64s ((mulP (nv k) Gp).2.1)) ++ (u64s ((mulP (nv k) Gp).2.2)))) rfl (load_whole (len_app rfl (len_app (u64s_lenh (mulP_len _ _).1) (u64s_lenh (mulP_len _ _).2)))) (len_app rfl (len_app (u64s_lenh (mulP_len _ _).1) (u64s_lenh (mulP_len _ _).2))) ?_
      refine s_a 2 0 9 (([.bool ((mulP (nv k) Gp).1)] : List Value) ++ ((u64s ((mulP (nv k) Gp).2.1)) ++ (u64s ((mulP (nv k) Gp).2.2)))) rfl (load_whole (len_app rfl (len_app (u64s_lenh (mulP_len _ _).1) (u64s_lenh (mulP_len _ _).2)))) (len_app rfl (len_app (u64s_lenh (mulP_len _ _).1) (u64s_lenh (mulP_len _ _).2))) ?_
      refine s_f (fun _ => padd_go _ ((mulP (nv k) Gp).1) ((mulP (nv k) Gp).2.1) ((mulP (nv k) Gp).2.2) ((mulP_len _ _).1) ((mulP_len _ _).2) ((mulP (nv k) Gp).1) ((mulP (nv k) Gp).2.1) ((mulP (nv k) Gp).2.2) ((mulP_len _ _).1) ((mulP_len _ _).2)) ?_
      refine s_a 3 0 9 (([.bool ((mulP (nv k) Gp).1)] : List Value) ++ ((u64s ((mulP (nv k) Gp).2.1)) ++ (u64s ((mulP (nv k) Gp).2.2)))) rfl (load_whole (len_app rfl (len_app (u64s_lenh (mulP_len _ _).1) (u64s_lenh (mulP_len _ _).2)))) (len_app rfl (len_app (u64s_lenh (mulP_len _ _).1) (u64s_lenh (mulP_len _ _).2))) ?_
      refine s_a 2 0 9 (([.bool ((mulP (nv k) Gp).1)] : List Value) ++ ((u64s ((mulP (nv k) Gp).2.1)) ++ (u64s ((mulP (nv k) Gp).2.2)))) rfl (load_whole (len_app rfl (len_app (u64s_lenh (mulP_len _ _).1) (u64s_lenh (mulP_len _ _).2)))) (len_app rfl (len_app (u64s_lenh (mulP_len _ _).1) (u64s_lenh (mulP_len _ _).2))) ?_
      refine s_f (fun _ => dpadd_go _ ((mulP (nv k) Gp).1) ((mulP (nv k) Gp).2.1) ((mulP (nv k) Gp).2.2) ((mulP_len _ _).1) ((mulP_len _ _).2) ((mulP (nv k) Gp).1) ((mulP (nv k) Gp).2.1) ((mulP (nv k) Gp).2.2) ((mulP_len _ _).1) ((mulP_len _ _).2)) ?_
      refine s_c (fun Mx381 ac382 wo383 En384 Hv385 => ?_) ?_
      ·
       refine q_v (x := eqOp .eql 26 (.tmp 46) (.tmp 49) (.agg (List.toArray (([.bool ((addP (mulP (nv k) Gp) (mulP (nv k) Gp)).1)] : List Value) ++ ((u64s ((addP (mulP (nv k) Gp) (mulP (nv k) Gp)).2.1)) ++ (u64s ((addP (mulP (nv k) Gp) (mulP (nv k) Gp)).2.2)))))) (.agg (List.toArray (([.bool ((addP (mulP (nv k) Gp) (mulP (nv k) Gp)).1)] : List Value) ++ ((u64s ((addP (mulP (nv k) Gp) (mulP (nv k) Gp)).2.1)) ++ (u64s ((addP (mulP (nv k) Gp) (mulP (nv k) Gp)).2.2))))))) (v := .bool true) En384 (Go.Dbr.run_is (fun w => Go.Dbr.pnt_eqop (a := (.tmp 46)) (b := (.tmp 49)) isP (addP_len _ _).1 (addP_len _ _).2 (addP_len _ _).1 (addP_len _ _).2 w) (pzeq rfl) _) fun ac386 En387 => ?_
       exact s_e En387 Hv385
      refine s_p [] ?_
      refine s_p [] ?_
      exact s_n
     exact a_e ⟨En390.sb, Hv391.pk [2, 3]⟩
    rintro ac392 wo393 ⟨En394, Hv395⟩
    refine then_normal ?_
    refine wp_ret ?_
    refine d_ret1 (t := 6) (v := .bool true) En394 (by kernel_rfl) (by kernel_rfl) ?_
    exact ⟨by first | rfl | kernel_rfl, Hv395.pk []⟩
  ·
   refine d_s [6,7,8,9,16,30] [] En168 fun ac396 En397 => ?_
   refine c_e ((UInt8.toNat (h &&& (3 : UInt8)) : Nat) : Int) (3 : Int) En397 (fun hc398 => ?_) (fun hc398 => ?_)
   ·
    refine region_from ?_
    refine f_o ?_
    refine q_v (x := Instr.build 26 #[(0, .bool true)]) (v := .agg (List.toArray (([.bool true] : List Value) ++ ((u64s (List.replicate 4 0)) ++ (u64s (List.replicate 4 0)))))) En397 (Go.Dbr.run_built [(0, 1), (1, 4), (5, 4)] [⟨1, [.bool false], some (0, .bool true, [.bool true])⟩, ⟨4, u64s (List.replicate 4 0), none⟩, ⟨4, u64s (List.replicate 4 0), none⟩] (fb_y rfl rfl (fb_n (u64s_lenh (List.length_replicate)) (fb_n (u64s_lenh (List.length_replicate)) trivial))) _) fun ac399 En400 => ?_
    refine f_o ?_
    refine m_g 3 0 9 (([.bool true] : List Value) ++ ((u64s (List.replicate 4 0)) ++ (u64s (List.replicate 4 0)))) (([.bool true] : List Value) ++ ((u64s (List.replicate 4 0)) ++ (u64s (List.replicate 4 0)))) [.box bk1 (u64s k) 24, .box bk6 (u64s l) 24, .box bk31 (([.bool ((mulP (nv k) Gp).1)] : List Value) ++ ((u64s ((mulP (nv k) Gp).2.1)) ++ (u64s ((mulP (nv k) Gp).2.2)))) 26, .box bk49 (([.bool true] : List Value) ++ ((u64s (List.replicate 4 0)) ++ (u64s (List.replicate 4 0)))) 26] En400 Hv57 rfl (len_app rfl (len_app (u64s_lenh (List.length_replicate)) (u64s_lenh (List.length_replicate)))) (by rw [(len_app rfl (len_app (u64s_lenh (mulP_len _ _).1) (u64s_lenh (mulP_len _ _).2)))]; first | decide | (simp; done)) (one_app (one_all (by kernel_rfl)) (one_app (u64s_one _) (u64s_one _))) (store_whole (len_app rfl (len_app (u64s_lenh (mulP_len _ _).1) (u64s_lenh (mulP_len _ _).2)))) rfl fun ac401 wo402 En403 Hv404 => ?_
    refine f_e ?_
    refine block_normal ?_
    refine then_normal ?_
    refine wp_seq ?_
    refine r_c (fun ac wo => Env ac 52 [(6, .bool true), (8, pt bk31), (9, pt bk49), (16, bv (h &&& (3 : UInt8)))] ∧ Ev w [] wo [.box bk31 (([.bool ((mulP (nv k) Gp).1)] : List Value) ++ ((u64s ((mulP (nv k) Gp).2.1)) ++ (u64s ((mulP (nv k) Gp).2.2)))) 26, .box bk49 (([.bool true] : List Value) ++ ((u64s (List.replicate 4 0)) ++ (u64s (List.replicate 4 0)))) 26]) ?_ ?_
    ·
     refine s_g0 [(7, .bool true), (8, pt bk31), (9, pt bk49), (16, bv (h &&& (3 : UInt8)))] [0,1,2,3,4,5,6,7,8,9,10,11,12,13,14,15,16,17,18,19] [(6, .bool true), (33, .bool true), (34, .bool true), (35, .agg (List.toArray (([.bool ((mulP (nv k) Gp).1)] : List Value) ++ ((u64s ((mulP (nv k) Gp).2.1)) ++ (u64s ((mulP (nv k) Gp).2.2)))))), (36, .agg (List.toArray (([.bool true] : List Value) ++ ((u64s (List.replicate 4 0)) ++ (u64s (List.replicate 4 0)))))), (37, .agg (List.toArray (([.bool ((addP (mulP (nv k) Gp) (true, List.replicate 4 0, List.replicate 4 0)).1)] : List Value) ++ ((u64s ((addP (mulP (nv k) Gp) (true, List.replicate 4 0, List.replicate 4 0)).2.1)) ++ (u64s ((addP (mulP (nv k) Gp) (true, List.replicate 4 0, List.replicate 4 0)).2.2)))))), (38, .agg (List.toArray (([.bool ((mulP (nv k) Gp).1)] : List Value) ++ ((u64s ((mulP (nv k) Gp).2.1)) ++ (u64s ((mulP (nv k) Gp).2.2)))))), (39, .agg (List.toArray (([.bool true] : List Value) ++ ((u64s (List.replicate 4 0)) ++ (u64s (List.replicate 4 0)))))), (40, .agg (List.toArray (([.bool ((addP (mulP (nv k) Gp) (true, List.replicate 4 0, List.replicate 4 0)).1)] : List Value) ++ ((u64s ((addP (mulP (nv k) Gp) (true, List.replicate 4 0, List.replicate 4 0)).2.1)) ++ (u64s ((addP (mulP (nv k) Gp) (true, List.replicate 4 0, List.replicate 4 0)).2.2)))))), (41, .bool true), (42, .bool true), (43, .bool true), (44, .agg (List.toArray (([.bool true] : List Value) ++ ((u64s (List.replicate 4 0)) ++ (u64s (List.replicate 4 0)))))), (45, .agg (List.toArray (([.bool ((mulP (nv k) Gp).1)] : List Value) ++ ((u64s ((mulP (nv k) Gp).2.1)) ++ (u64s ((mulP (nv k) Gp).2.2)))))), (46, .agg (List.toArray (([.bool ((addP (true, List.replicate 4 0, List.replicate 4 0) (mulP (nv k) Gp)).1)] : List Value) ++ ((u64s ((addP (true, List.replicate 4 0, List.replicate 4 0) (mulP (nv k) Gp)).2.1)) ++ (u64s ((addP (true, List.replicate 4 0, List.replicate 4 0) (mulP (nv k) Gp)).2.2)))))), (47, .agg (List.toArray (([.bool true] : List Value) ++ ((u64s (List.replicate 4 0)) ++ (u64s (List.replicate 4 0)))))), (48, .agg (List.toArray (([.bool ((mulP (nv k) Gp).1)] : List Value) ++ ((u64s ((mulP (nv k) Gp).2.1)) ++ (u64s ((mulP (nv k) Gp).2.2)))))), (49, .agg (List.toArray (([.bool ((addP (true, List.replicate 4 0, List.replicate 4 0) (mulP (nv k) Gp)).1)] : List Value) ++ ((u64s ((addP (true, List.replicate 4 0, List.replicate 4 0) (mulP (nv k) Gp)).2.1)) ++ (u64s ((addP (true, List.replicate 4 0, List.replicate 4 0) (mulP (nv k) Gp)).2.2)))))), (50, .bool true), (51, .bool true)] 0 [(6, .bool true), (8, pt bk31), (9, pt bk49), (16, bv (h &&& (3 : UInt8)))] (En403.sb) (Hv404.trans (Ev.drew Hv404.heap)) ?_ fun ac495 wo496 En497 Hv498 => ?_
     ·
      refine s_p [] ?_
      refine s_p [] ?_
      refine s_a 2 0 9 (([.bool ((mulP (nv k) Gp).1)] : List Value) ++ ((u64s ((mulP (nv k) Gp).2.1)) ++ (u64s ((mulP (nv k) Gp).2.2)))) rfl (load_whole (len_app rfl (len_app (u64s_lenh (mulP_len _ _).1) (u64s_lenh (mulP_len _ _).2)))) (len_app rfl (len_app (u64s_lenh (mulP_len _ _).1) (u64s_lenh (mulP_len _ _).2))) ?_
      refine s_a 3 0 9 (([.bool true] : List Value) ++ ((u64s (List.replicate 4 0)) ++ (u64s (List.replicate 4 0)))) rfl (load_whole (len_app rfl (len_app (u64s_lenh (List.length_replicate)) (u64s_lenh (List.length_replicate))))) (len_app rfl (len_app (u64s_lenh (List.length_replicate)) (u64s_lenh (List.length_replicate)))) ?_
      refine s_f (fun _ => padd_go _ ((mulP (nv k) Gp).1) ((mulP (nv k) Gp).2.1) ((mulP (nv k) Gp).2.2) ((mulP_len _ _).1) ((mulP_len _ _).2) true (List.replicate 4 0) (List.replicate 4 0) (List.length_replicate) (List.length_replicate)) ?_
      refine s_a 2 0 9 (([.bool ((mulP (nv k) Gp).1)] : List Value) ++ ((u64s ((mulP (nv k) Gp).2.1)) ++ (u64s ((mulP (nv k) Gp).2.2)))) rfl (load_whole (len_app rfl (len_app (u64s_lenh (mulP_len _ _).1) (u64s_lenh (mulP_len _ _).2)))) (len_app rfl (len_app (u64s_lenh (mulP_len _ _).1) (u64s_lenh (mulP_len _ _).2))) ?_
      refine s_a 3 0 9 (([.bool true] : List Value) ++ ((u64s (List.replicate 4 0)) ++ (u64s (List.replicate 4 0)))) rfl (load_whole (len_app rfl (len_app (u64s_lenh (List.length_replicate)) (u64s_lenh (List.length_replicate))))) (len_app rfl (len_app (u64s_lenh (List.length_replicate)) (u64s_lenh (List.length_replicate)))) ?_
      refine s_f (fun _ => dpadd_go _ ((mulP (nv k) Gp).1) ((mulP (nv k) Gp).2.1) ((mulP (nv k) Gp).2.2) ((mulP_len _ _).1) ((mulP_len _ _).2) true (List.replicate 4 0) (List.replicate 4 0) (List.length_replicate) (List.length_replicate)) ?_
      refine s_c (fun Mx443 ac444 wo445 En446 Hv447 => ?_) ?_
      ·
       refine q_v (x := eqOp .eql 26 (.tmp 37) (.tmp 40) (.agg (List.toArray (([.bool ((addP (mulP (nv k) Gp) (true, List.replicate 4 0, List.replicate 4 0)).1)] : List Value) ++ ((u64s ((addP (mulP (nv k) Gp) (true, List.replicate 4 0, List.replicate 4 0)).2.1)) ++ (u64s ((addP (mulP (nv k) Gp) (true, List.replicate 4 0, List.replicate 4 0)).2.2)))))) (.agg (List.toArray (([.bool ((addP (mulP (nv k) Gp) (true, List.replicate 4 0, List.replicate 4 0)).1)] : List Value) ++ ((u64s ((addP (mulP (nv k) Gp) (true, List.replicate 4 0, List.replicate 4 0)).2.1)) ++ (u64s ((addP (mulP (nv k) Gp) (true, List.replicate 4 0, List.replicate 4 0)).2.2))))))) (v := .bool true) En446 (Go.Dbr.run_is (fun w => Go.Dbr.pnt_eqop (a := (.tmp 37)) (b := (.tmp 40)) isP (addP_len _ _).1 (addP_len _ _).2 (addP_len _ _).1 (addP_len _ _).2 w) (pzeq rfl) _) fun ac448 En449 => ?_
       exact s_e En449 Hv447
      refine s_p [] ?_
      refine s_p [] ?_
      refine s_a 3 0 9 (([.bool true] : List Value) ++ ((u64s (List.replicate 4 0)) ++ (u64s (List.replicate 4 0)))) rfl (load_whole (len_app rfl (len_app (u64s_lenh (List.length_replicate)) (u64s_lenh (List.length_replicate))))) (len_app rfl (len_app (u64s_lenh (List.length_replicate)) (u64s_lenh (List.length_replicate)))) ?_
      refine s_a 2 0 9 (([.bool ((mulP (nv k) Gp).1)] : List Value) ++ ((u64s ((mulP (nv k) Gp).2.1)) ++ (u64s ((mulP (nv k) Gp).2.2)))) rfl (load_whole (len_app rfl (len_app (u64s_lenh (mulP_len _ _).1) (u64s_lenh (mulP_len _ _).2)))) (len_app rfl (len_app (u64s_lenh (mulP_len _ _).1) (u64s_lenh (mulP_len _ _).2))) ?_
      refine s_f (fun _ => padd_go _ true (List.replicate 4 0) (List.replicate 4 0) (List.length_replicate) (List.length_replicate) ((mulP (nv k) Gp).1) ((mulP (nv k) Gp).2.1) ((mulP (nv k) Gp).2.2) ((mulP_len _ _).1) ((mulP_len _ _).2)) ?_
      refine s_a 3 0 9 (([.bool true] : List Value) ++ ((u64s (List.replicate 4 0)) ++ (u64s (List.replicate 4 0)))) rfl (load_whole (len_app rfl (len_app (u64s_lenh (List.length_replicate)) (u64s_lenh (List.length_replicate))))) (len_app rfl (len_app (u64s_lenh (List.length_replicate)) (u64s_lenh (List.length_replicate)))) ?_
      refine s_a 2 0 9 (([.bool ((mulP (nv k) Gp).1)] : List Value) ++ ((u64s ((mulP (nv k) Gp).2.1)) ++ (u64s ((mulP (nv k) Gp).2.2)))) rfl (load_whole (len_app rfl (len_app (u64s_lenh (mulP_len _ _).1) (u64s_lenh (mulP_len _ _).2)))) (len_app rfl (len_app (u64s_lenh (mulP_len _ _).1) (u64s_lenh (mulP_len _ _).2))) ?_
      refine s_f (fun _ => dpadd_go _ true (List.replicate 4 0) (List.replicate 4 0) (List.length_replicate) (List.length_replicate) ((mulP (nv k) Gp).1) ((mulP (nv k) Gp).2.1) ((mulP (nv k) Gp).2.2) ((mulP_len _ _).1) ((mulP_len _ _).2)) ?_
      refine s_c (fun Mx488 ac489 wo490 En491 Hv492 => ?_) ?_
      ·
       refine q_v (x := eqOp .eql 26 (.tmp 46) (.tmp 49) (.agg (List.toArray (([.bool ((addP (true, List.replicate 4 0, List.replicate 4 0) (mulP (nv k) Gp)).1)] : List Value) ++ ((u64s ((addP (true, List.replicate 4 0, List.replicate 4 0) (mulP (nv k) Gp)).2.1)) ++ (u64s ((addP (true, List.replicate 4 0, List.replicate 4 0) (mulP (nv k) Gp)).2.2)))))) (.agg (List.toArray (([.bool ((addP (true, List.replicate 4 0, List.replicate 4 0) (mulP (nv k) Gp)).1)] : List Value) ++ ((u64s ((addP (true, List.replicate 4 0, List.replicate 4 0) (mulP (nv k) Gp)).2.1)) ++ (u64s ((addP (true, List.replicate 4 0, List.replicate 4 0) (mulP (nv k) Gp)).2.2))))))) (v := .bool true) En491 (Go.Dbr.run_is (fun w => Go.Dbr.pnt_eqop (a := (.tmp 46)) (b := (.tmp 49)) isP (addP_len _ _).1 (addP_len _ _).2 (addP_len _ _).1 (addP_len _ _).2 w) (pzeq rfl) _) fun ac493 En494 => ?_
       exact s_e En494 Hv492
      refine s_p [] ?_
      refine s_p [] ?_
      exact s_n
     exact a_e ⟨En497.sb, Hv498.pk [2, 3]⟩
    rintro ac499 wo500 ⟨En501, Hv502⟩
    refine then_normal ?_
    refine wp_ret ?_
    refine d_ret1 (t := 6) (v := .bool true) En501 (by kernel_rfl) (by kernel_rfl) ?_
    exact ⟨by first | rfl | kernel_rfl, Hv502.pk []⟩
   ·
    refine wp_skip ?_
    refine block_normal ?_
    refine then_normal ?_
    refine wp_seq ?_
    refine r_c (fun ac wo => Env ac 52 [(6, .bool true), (8, pt bk31), (9, pt bk49), (16, bv (h &&& (3 : UInt8)))] ∧ Ev w [] wo [.box bk31 (([.bool ((mulP (nv k) Gp).1)] : List Value) ++ ((u64s ((mulP (nv k) Gp).2.1)) ++ (u64s ((mulP (nv k) Gp).2.2)))) 26, .box bk49 (([.bool ((mulP (nv l) Gp).1)] : List Value) ++ ((u64s ((mulP (nv l) Gp).2.1)) ++ (u64s ((mulP (nv l) Gp).2.2)))) 26]) ?_ ?_
    ·
     refine s_g0 [(7, .bool true), (8, pt bk31), (9, pt bk49), (16, bv (h &&& (3 : UInt8)))] [0,1,2,3,4,5,6,7,8,9,10,11,12,13,14,15,16,17,18,19] [(6, .bool true), (33, .bool true), (34, .bool true), (35, .agg (List.toArray (([.bool ((mulP (nv k) Gp).1)] : List Value) ++ ((u64s ((mulP (nv k) Gp).2.1)) ++ (u64s ((mulP (nv k) Gp).2.2)))))), (36, .agg (List.toArray (([.bool ((mulP (nv l) Gp).1)] : List Value) ++ ((u64s ((mulP (nv l) Gp).2.1)) ++ (u64s ((mulP (nv l) Gp).2.2)))))), (37, .agg (List.toArray (([.bool ((addP (mulP (nv k) Gp) (mulP (nv l) Gp)).1)] : List Value) ++ ((u64s ((addP (mulP (nv k) Gp) (mulP (nv l) Gp)).2.1)) ++ (u64s ((addP (mulP (nv k) Gp) (mulP (nv l) Gp)).2.2)))))), (38, .agg (List.toArray (([.bool ((mulP (nv k) Gp).1)] : List Value) ++ ((u64s ((mulP (nv k) Gp).2.1)) ++ (u64s ((mulP (nv k) Gp).2.2)))))), (39, .agg (List.toArray (([.bool ((mulP (nv l) Gp).1)] : List Value) ++ ((u64s ((mulP (nv l) Gp).2.1)) ++ (u64s ((mulP (nv l) Gp).2.2)))))), (40, .agg (List.toArray (([.bool ((addP (mulP (nv k) Gp) (mulP (nv l) Gp)).1)] : List Value) ++ ((u64s ((addP (mulP (nv k) Gp) (mulP (nv l) Gp)).2.1)) ++ (u64s ((addP (mulP (nv k) Gp) (mulP (nv l) Gp)).2.2)))))), (41, .bool true), (42, .bool true), (43, .bool true), (44, .agg (List.toArray (([.bool ((mulP (nv l) Gp).1)] : List Value) ++ ((u64s ((mulP (nv l) Gp).2.1)) ++ (u64s ((mulP (nv l) Gp).2.2)))))), (45, .agg (List.toArray (([.bool ((mulP (nv k) Gp).1)] : List Value) ++ ((u64s ((mulP (nv k) Gp).2.1)) ++ (u64s ((mulP (nv k) Gp).2.2)))))), (46, .agg (List.toArray (([.bool ((addP (mulP (nv l) Gp) (mulP (nv k) Gp)).1)] : List Value) ++ ((u64s ((addP (mulP (nv l) Gp) (mulP (nv k) Gp)).2.1)) ++ (u64s ((addP (mulP (nv l) Gp) (mulP (nv k) Gp)).2.2)))))), (47, .agg (List.toArray (([.bool ((mulP (nv l) Gp).1)] : List Value) ++ ((u64s ((mulP (nv l) Gp).2.1)) ++ (u64s ((mulP (nv l) Gp).2.2)))))), (48, .agg (List.toArray (([.bool ((mulP (nv k) Gp).1)] : List Value) ++ ((u64s ((mulP (nv k) Gp).2.1)) ++ (u64s ((mulP (nv k) Gp).2.2)))))), (49, .agg (List.toArray (([.bool ((addP (mulP (nv l) Gp) (mulP (nv k) Gp)).1)] : List Value) ++ ((u64s ((addP (mulP (nv l) Gp) (mulP (nv k) Gp)).2.1)) ++ (u64s ((addP (mulP (nv l) Gp) (mulP (nv k) Gp)).2.2)))))), (50, .bool true), (51, .bool true)] 0 [(6, .bool true), (8, pt bk31), (9, pt bk49), (16, bv (h &&& (3 : UInt8)))] (En397.sb) (Hv57.trans (Ev.drew Hv57.heap)) ?_ fun ac593 wo594 En595 Hv596 => ?_
     ·
      refine s_p [] ?_
      refine s_p [] ?_
      refine s_a 2 0 9 (([.bool ((mulP (nv k) Gp).1)] : List Value) ++ ((u64s ((mulP (nv k) Gp).2.1)) ++ (u64s ((mulP (nv k) Gp).2.2)))) rfl (load_whole (len_app rfl (len_app (u64s_lenh (mulP_len _ _).1) (u64s_lenh (mulP_len _ _).2)))) (len_app rfl (len_app (u64s_lenh (mulP_len _ _).1) (u64s_lenh (mulP_len _ _).2))) ?_
      refine s_a 3 0 9 (([.bool ((mulP (nv l) Gp).1)] : List Value) ++ ((u64s ((mulP (nv l) Gp).2.1)) ++ (u64s ((mulP (nv l) Gp).2.2)))) rfl (load_whole (len_app rfl (len_app (u64s_lenh (mulP_len _ _).1) (u64s_lenh (mulP_len _ _).2)))) (len_app rfl (len_app (u64s_lenh (mulP_len _ _).1) (u64s_lenh (mulP_len _ _).2))) ?_
      refine s_f (fun _ => padd_go _ ((mulP (nv k) Gp).1) ((mulP (nv k) Gp).2.1) ((mulP (nv k) Gp).2.2) ((mulP_len _ _).1) ((mulP_len _ _).2) ((mulP (nv l) Gp).1) ((mulP (nv l) Gp).2.1) ((mulP (nv l) Gp).2.2) ((mulP_len _ _).1) ((mulP_len _ _).2)) ?_
      refine s_a 2 0 9 (([.bool ((mulP (nv k) Gp).1)] : List Value) ++ ((u64s ((mulP (nv k) Gp).2.1)) ++ (u64s ((mulP (nv k) Gp).2.2)))) rfl (load_whole (len_app rfl (len_app (u64s_lenh (mulP_len _ _).1) (u64s_lenh (mulP_len _ _).2)))) (len_app rfl (len_app (u64s_lenh (mulP_len _ _).1) (u64s_lenh (mulP_len _ _).2))) ?_
      refine s_a 3 0 9 (([.bool ((mulP (nv l) Gp).1)] : List Value) ++ ((u64s ((mulP (nv l) Gp).2.1)) ++ (u64s ((mulP (nv l) Gp).2.2)))) rfl (load_whole (len_app rfl (len_app (u64s_lenh (mulP_len _ _).1) (u64s_lenh (mulP_len _ _).2)))) (len_app rfl (len_app (u64s_lenh (mulP_len _ _).1) (u64s_lenh (mulP_len _ _).2))) ?_
      refine s_f (fun _ => dpadd_go _ ((mulP (nv k) Gp).1) ((mulP (nv k) Gp).2.1) ((mulP (nv k) Gp).2.2) ((mulP_len _ _).1) ((mulP_len _ _).2) ((mulP (nv l) Gp).1) ((mulP (nv l) Gp).2.1) ((mulP (nv l) Gp).2.2) ((mulP_len _ _).1) ((mulP_len _ _).2)) ?_
      refine s_c (fun Mx541 ac542 wo543 En544 Hv545 => ?_) ?_
      ·
       refine q_v (x := eqOp .eql 26 (.tmp 37) (.tmp 40) (.agg (List.toArray (([.bool ((addP (mulP (nv k) Gp) (mulP (nv l) Gp)).1)] : List Value) ++ ((u64s ((addP (mulP (nv k) Gp) (mulP (nv l) Gp)).2.1)) ++ (u64s ((addP (mulP (nv k) Gp) (mulP (nv l) Gp)).2.2)))))) (.agg (List.toArray (([.bool ((addP (mulP (nv k) Gp) (mulP (nv l) Gp)).1)] : List Value) ++ ((u64s ((addP (mulP (nv k) Gp) (mulP (nv l) Gp)).2.1)) ++ (u64s ((addP (mulP (nv k) Gp) (mulP (nv l) Gp)).2.2))))))) (v := .bool true) En544 (Go.Dbr.run_is (fun w => Go.Dbr.pnt_eqop (a := (.tmp 37)) (b := (.tmp 40)) isP (addP_len _ _).1 (addP_len _ _).2 (addP_len _ _).1 (addP_len _ _).2 w) (pzeq rfl) _) fun ac546 En547 => ?_
       exact s_e En547 Hv545
      refine s_p [] ?_
      refine s_p [] ?_
      refine s_a 3 0 9 (([.bool ((mulP (nv l) Gp).1)] : List Value) ++ ((u64s ((mulP (nv l) Gp).2.1)) ++ (u64s ((mulP (nv l) Gp).2.2)))) rfl (load_whole (len_app rfl (len_app (u64s_lenh (mulP_len _ _).1) (u64s_lenh (mulP_len _ _).2)))) (len_app rfl (len_app (u64s_lenh (mulP_len _ _).1) (u64s_lenh (mulP_len _ _).2))) ?_
      refine s_a 2 0 9 (([.bool ((mulP (nv k) Gp).1)] : List Value) ++ ((u64s ((mulP (nv k) Gp).2.1)) ++ (u64s ((mulP (nv k) Gp).2.2)))) rfl (load_whole (len_app rfl (len_app (u64s_lenh (mulP_len _ _).1) (u64s_lenh (mulP_len _ _).2)))) (len_app rfl (len_app (u64s_lenh (mulP_len _ _).1) (u64s_lenh (mulP_len _ _).2))) ?_
      refine s_f (fun _ => padd_go _ ((mulP (nv l) Gp).1) ((mulP (nv l) Gp).2.1) ((mulP (nv l) Gp).2.2) ((mulP_len _ _).1) ((mulP_len _ _).2) ((mulP (nv k) Gp).1) ((mulP (nv k) Gp).2.1) ((mulP (nv k) Gp).2.2) ((mulP_len _ _).1) ((mulP_len _ _).2)) ?_
      refine s_a 3 0 9 (([.bool ((mulP (nv l) Gp).1)] : List Value) ++ ((u64s ((mulP (nv l) Gp).2.1)) ++ (u64s ((mulP (nv l) Gp).2.2)))) rfl (load_whole (len_app rfl (len_app (u64s_lenh (mulP_len _ _).1) (u64s_lenh (mulP_len _ _).2)))) (len_app rfl (len_app (u64s_lenh (mulP_len _ _).1) (u64s_lenh (mulP_len _ _).2))) ?_
      refine s_a 2 0 9 (([.bool ((mulP (nv k) Gp).1)] : List Value) ++ ((u64s ((mulP (nv k) Gp).2.1)) ++ (u64s ((mulP (nv k) Gp).2.2)))) rfl (load_whole (len_app rfl (len_app (u64s_lenh (mulP_len _ _).1) (u64s_lenh (mulP_len _ _).2)))) (len_app rfl (len_app (u64s_lenh (mulP_len _ _).1) (u64s_lenh (mulP_len _ _).2))) ?_
      refine s_f (fun _ => dpadd_go _ ((mulP (nv l) Gp).1) ((mulP (nv l) Gp).2.1) ((mulP (nv l) Gp).2.2) ((mulP_len _ _).1) ((mulP_len _ _).2) ((mulP (nv k) Gp).1) ((mulP (nv k) Gp).2.1) ((mulP (nv k) Gp).2.2) ((mulP_len _ _).1) ((mulP_len _ _).2)) ?_
      refine s_c (fun Mx586 ac587 wo588 En589 Hv590 => ?_) ?_
      ·
       refine q_v (x := eqOp .eql 26 (.tmp 46) (.tmp 49) (.agg (List.toArray (([.bool ((addP (mulP (nv l) Gp) (mulP (nv k) Gp)).1)] : List Value) ++ ((u64s ((addP (mulP (nv l) Gp) (mulP (nv k) Gp)).2.1)) ++ (u64s ((addP (mulP (nv l) Gp) (mulP (nv k) Gp)).2.2)))))) (.agg (List.toArray (([.bool ((addP (mulP (nv l) Gp) (mulP (nv k) Gp)).1)] : List Value) ++ ((u64s ((addP (mulP (nv l) Gp) (mulP (nv k) Gp)).2.1)) ++ (u64s ((addP (mulP (nv l) Gp) (mulP (nv k) Gp)).2.2))))))) (v := .bool true) En589 (Go.Dbr.run_is (fun w => Go.Dbr.pnt_eqop (a := (.tmp 46)) (b := (.tmp 49)) isP (addP_len _ _).1 (addP_len _ _).2 (addP_len _ _).1 (addP_len _ _).2 w) (pzeq rfl) _) fun ac591 En592 => ?_
       exact s_e En592 Hv590
      refine s_p [] ?_
      refine s_p [] ?_
      exact s_n
     exact a_e ⟨En595.sb, Hv596.pk [2, 3]⟩
    rintro ac597 wo598 ⟨En599, Hv600⟩
    refine then_normal ?_
    refine wp_ret ?_
    refine d_ret1 (t := 6) (v := .bool true) En599 (by kernel_rfl) (by kernel_rfl) ?_
    exact ⟨by first | rfl | kernel_rfl, Hv600.pk []⟩

theorem group_walk (k : List UInt64) (l : List UInt64) (m : List UInt64) (w : World) (n_k : (List.length k = 4)) (n_l : (List.length l = 4)) (n_m : (List.length m = 4)) : Calls Try.prog 5 #[.agg (List.toArray (u64s k)), .agg (List.toArray (u64s l)), .agg (List.toArray (u64s m))] w fun e w' => e = .returned (.bool true) ∧ Ev w [] w' [] := by
 refine d_0 [(0, .agg (List.toArray (u64s k))), (1, .agg (List.toArray (u64s l))), (2, .agg (List.toArray (u64s m)))] 70 Go.Proofs.Try.func5 Go.Proofs.Try.ntmps5 (Heap.nil _) fun act0 En0 Hv0 => ?_
 refine wp_seq ?_
 refine region_from ?_
 refine f_o ?_
 refine m_m 24 (u64s k) En0 Hv0 fun ac2 wo3 bk1 En4 Hv5 => ?_
 refine f_o ?_
 refine m_m 24 (u64s l) En4 Hv5 fun ac7 wo8 bk6 En9 Hv10 => ?_
 refine f_o ?_
 refine m_m 24 (u64s m) En9 Hv10 fun ac12 wo13 bk11 En14 Hv15 => ?_
 refine d_e [3,4,5,6] [] En14 fun ac16 En17 => ?_
 refine then_normal ?_
 refine wp_seq ?_
 refine region_from ?_
 refine f_o ?_
 refine c_p En17 Hv15 (head_ok _) fun ac22 wo19 En23 Hv24 => ?_
 refine d_e [3,4,5,6,7] [] En23 fun ac25 En26 => ?_
 refine then_normal ?_
 refine wp_seq ?_
 refine r_c (fun ac wo => ∃ (bk54 : Nat), Env ac 70 [(3, pt bk1), (4, pt bk6), (5, pt bk11), (6, .bool false), (7, .bool true), (8, pt bk54)] ∧ Ev w [] wo [.box bk1 (u64s k) 24, .box bk6 (u64s l) 24, .box bk11 (u64s m) 24, .box bk54 (([.bool ((mulP (nv k) Gp).1)] : List Value) ++ ((u64s ((mulP (nv k) Gp).2.1)) ++ (u64s ((mulP (nv k) Gp).2.2)))) 26]) ?_ ?_
 ·
  refine s_g1 [(3, pt bk1), (4, pt bk6), (5, pt bk11), (6, .bool false), (7, .bool true)] [0,1,2] [(16, .agg (List.toArray (u64s k))), (17, .agg (List.toArray (([.bool false] : List Value) ++ ((u64s (nd GX)) ++ (u64s (nd GY)))))), (18, .agg (List.toArray (([.bool ((mulP (nv k) Gp).1)] : List Value) ++ ((u64s ((mulP (nv k) Gp).2.1)) ++ (u64s ((mulP (nv k) Gp).2.2))))))] 1 [(3, pt bk1), (4, pt bk6), (5, pt bk11), (6, .bool false), (7, .bool true), (18, .agg (List.toArray (([.bool ((mulP (nv k) Gp).1)] : List Value) ++ ((u64s ((mulP (nv k) Gp).2.1)) ++ (u64s ((mulP (nv k) Gp).2.2))))))] 3 (([.bool false] : List Value) ++ ((u64s (List.replicate 4 0)) ++ (u64s (List.replicate 4 0)))) (En26.sb) (Hv24.trans (Ev.drew Hv24.heap)) ?_ fun ac50 wo51 bk54 En52 Hv53 => ?_
  ·
   refine s_a 0 0 4 (u64s k) rfl (load_whole (u64s_lenh n_k)) (u64s_lenh n_k) ?_
   refine s_f (fun _ => pbase_go _) ?_
   refine s_f (fun _ => pmult_go _ k n_k false (nd GX) (nd GY) (nds_len _ _) (nds_len _ _)) ?_
   exact s_n
  refine q_u 4 ?_
  refine m_g 3 0 9 (([.bool ((mulP (nv k) Gp).1)] : List Value) ++ ((u64s ((mulP (nv k) Gp).2.1)) ++ (u64s ((mulP (nv k) Gp).2.2)))) (([.bool ((mulP (nv k) Gp).1)] : List Value) ++ ((u64s ((mulP (nv k) Gp).2.1)) ++ (u64s ((mulP (nv k) Gp).2.2)))) [.box bk1 (u64s k) 24, .box bk6 (u64s l) 24, .box bk11 (u64s m) 24, .box bk54 (([.bool ((mulP (nv k) Gp).1)] : List Value) ++ ((u64s ((mulP (nv k) Gp).2.1)) ++ (u64s ((mulP (nv k) Gp).2.2)))) 26] En52 Hv53 rfl (len_app rfl (len_app (u64s_lenh (mulP_len _ _).1) (u64s_lenh (mulP_len _ _).2))) (by rw [(len_app rfl (len_app (u64s_lenh (List.length_replicate)) (u64s_lenh (List.length_replicate))))]; first | decide | (simp; done)) (one_app (one_all (by kernel_rfl)) (one_app (u64s_one _) (u64s_one _))) (store_whole (len_app rfl (len_app (u64s_lenh (List.length_replicate)) (u64s_lenh (List.length_replicate))))) rfl fun ac59 wo60 En61 Hv62 => ?_
  exact a_e ⟨bk54, En61.sb, Hv62.pk [0, 1, 2, 3]⟩
 rintro ac63 wo64 ⟨bk54, En65, Hv66⟩
 refine then_normal ?_
 refine wp_seq ?_
 refine r_c (fun ac wo => ∃ (bk94 : Nat), Env ac 70 [(3, pt bk1), (4, pt bk6), (5, pt bk11), (6, .bool false), (7, .bool true), (8, pt bk54), (9, pt bk94)] ∧ Ev w [] wo [.box bk1 (u64s k) 24, .box bk6 (u64s l) 24, .box bk11 (u64s m) 24, .box bk54 (([.bool ((mulP (nv k) Gp).1)] : List Value) ++ ((u64s ((mulP (nv k) Gp).2.1)) ++ (u64s ((mulP (nv k) Gp).2.2)))) 26, .box bk94 (([.bool ((mulP (nv l) Gp).1)] : List Value) ++ ((u64s ((mulP (nv l) Gp).2.1)) ++ (u64s ((mulP (nv l) Gp).2.2)))) 26]) ?_ ?_
 ·
  refine s_g1 [(3, pt bk1), (4, pt bk6), (5, pt bk11), (6, .bool false), (7, .bool true), (8, pt bk54)] [0,1,2] [(19, .agg (List.toArray (u64s l))), (20, .agg (List.toArray (([.bool false] : List Value) ++ ((u64s (nd GX)) ++ (u64s (nd GY)))))), (21, .agg (List.toArray (([.bool ((mulP (nv l) Gp).1)] : List Value) ++ ((u64s ((mulP (nv l) Gp).2.1)) ++ (u64s ((mulP (nv l) Gp).2.2))))))] 1 [(3, pt bk1), (4, pt bk6), (5, pt bk11), (6, .bool false), (7, .bool true), (8, pt bk54), (21, .agg (List.toArray (([.bool ((mulP (nv l) Gp).1)] : List Value) ++ ((u64s ((mulP (nv l) Gp).2.1)) ++ (u64s ((mulP (nv l) Gp).2.2))))))] 3 (([.bool false] : List Value) ++ ((u64s (List.replicate 4 0)) ++ (u64s (List.replicate 4 0)))) (En65.sb) (Hv66.trans (Ev.drew Hv66.heap)) ?_ fun ac90 wo91 bk94 En92 Hv93 => ?_
  ·
   refine s_a 1 0 4 (u64s l) rfl (load_whole (u64s_lenh n_l)) (u64s_lenh n_l) ?_
   refine s_f (fun _ => pbase_go _) ?_
   refine s_f (fun _ => pmult_go _ l n_l false (nd GX) (nd GY) (nds_len _ _) (nds_len _ _)) ?_
   exact s_n
  refine q_u 4 ?_
  refine m_g 4 0 9 (([.bool ((mulP (nv l) Gp).1)] : List Value) ++ ((u64s ((mulP (nv l) Gp).2.1)) ++ (u64s ((mulP (nv l) Gp).2.2)))) (([.bool ((mulP (nv l) Gp).1)] : List Value) ++ ((u64s ((mulP (nv l) Gp).2.1)) ++ (u64s ((mulP (nv l) Gp).2.2)))) [.box bk1 (u64s k) 24, .box bk6 (u64s l) 24, .box bk11 (u64s m) 24, .box bk54 (([.bool ((mulP (nv k) Gp).1)] : List Value) ++ ((u64s ((mulP (nv k) Gp).2.1)) ++ (u64s ((mulP (nv k) Gp).2.2)))) 26, .box bk94 (([.bool ((mulP (nv l) Gp).1)] : List Value) ++ ((u64s ((mulP (nv l) Gp).2.1)) ++ (u64s ((mulP (nv l) Gp).2.2)))) 26] En92 Hv93 rfl (len_app rfl (len_app (u64s_lenh (mulP_len _ _).1) (u64s_lenh (mulP_len _ _).2))) (by rw [(len_app rfl (len_app (u64s_lenh (List.length_replicate)) (u64s_lenh (List.length_replicate))))]; first | decide | (simp; done)) (one_app (one_all (by kernel_rfl)) (one_app (u64s_one _) (u64s_one _))) (store_whole (len_app rfl (len_app (u64s_lenh (List.length_replicate)) (u64s_lenh (List.length_replicate))))) rfl fun ac99 wo100 En101 Hv102 => ?_
  exact a_e ⟨bk94, En101.sb, Hv102.pk [0, 1, 2, 3, 4]⟩
 rintro ac103 wo104 ⟨bk94, En105, Hv106⟩
 refine then_normal ?_
 refine wp_seq ?_
 refine r_c (fun ac wo => ∃ (bk134 : Nat), Env ac 70 [(3, pt bk1), (4, pt bk6), (6, .bool false), (7, .bool true), (8, pt bk54), (9, pt bk94), (10, pt bk134)] ∧ Ev w [] wo [.box bk1 (u64s k) 24, .box bk6 (u64s l) 24, .box bk54 (([.bool ((mulP (nv k) Gp).1)] : List Value) ++ ((u64s ((mulP (nv k) Gp).2.1)) ++ (u64s ((mulP (nv k) Gp).2.2)))) 26, .box bk94 (([.bool ((mulP (nv l) Gp).1)] : List Value) ++ ((u64s ((mulP (nv l) Gp).2.1)) ++ (u64s ((mulP (nv l) Gp).2.2)))) 26, .box bk134 (([.bool ((mulP (nv m) Gp).1)] : List Value) ++ ((u64s ((mulP (nv m) Gp).2.1)) ++ (u64s ((mulP (nv m) Gp).2.2)))) 26]) ?_ ?_
 ·
  refine s_g1 [(3, pt bk1), (4, pt bk6), (5, pt bk11), (6, .bool false), (7, .bool true), (8, pt bk54), (9, pt bk94)] [0,1,2] [(22, .agg (List.toArray (u64s m))), (23, .agg (List.toArray (([.bool false] : List Value) ++ ((u64s (nd GX)) ++ (u64s (nd GY)))))), (24, .agg (List.toArray (([.bool ((mulP (nv m) Gp).1)] : List Value) ++ ((u64s ((mulP (nv m) Gp).2.1)) ++ (u64s ((mulP (nv m) Gp).2.2))))))] 1 [(3, pt bk1), (4, pt bk6), (6, .bool false), (7, .bool true), (8, pt bk54), (9, pt bk94), (24, .agg (List.toArray (([.bool ((mulP (nv m) Gp).1)] : List Value) ++ ((u64s ((mulP (nv m) Gp).2.1)) ++ (u64s ((mulP (nv m) Gp).2.2))))))] 3 (([.bool false] : List Value) ++ ((u64s (List.replicate 4 0)) ++ (u64s (List.replicate 4 0)))) (En105.sb) (Hv106.trans (Ev.drew Hv106.heap)) ?_ fun ac130 wo131 bk134 En132 Hv133 => ?_
  ·
   refine s_a 2 0 4 (u64s m) rfl (load_whole (u64s_lenh n_m)) (u64s_lenh n_m) ?_
   refine s_f (fun _ => pbase_go _) ?_
   refine s_f (fun _ => pmult_go _ m n_m false (nd GX) (nd GY) (nds_len _ _) (nds_len _ _)) ?_
   exact s_n
  refine q_u 4 ?_
  refine m_g 5 0 9 (([.bool ((mulP (nv m) Gp).1)] : List Value) ++ ((u64s ((mulP (nv m) Gp).2.1)) ++ (u64s ((mulP (nv m) Gp).2.2)))) (([.bool ((mulP (nv m) Gp).1)] : List Value) ++ ((u64s ((mulP (nv m) Gp).2.1)) ++ (u64s ((mulP (nv m) Gp).2.2)))) [.box bk1 (u64s k) 24, .box bk6 (u64s l) 24, .box bk11 (u64s m) 24, .box bk54 (([.bool ((mulP (nv k) Gp).1)] : List Value) ++ ((u64s ((mulP (nv k) Gp).2.1)) ++ (u64s ((mulP (nv k) Gp).2.2)))) 26, .box bk94 (([.bool ((mulP (nv l) Gp).1)] : List Value) ++ ((u64s ((mulP (nv l) Gp).2.1)) ++ (u64s ((mulP (nv l) Gp).2.2)))) 26, .box bk134 (([.bool ((mulP (nv m) Gp).1)] : List Value) ++ ((u64s ((mulP (nv m) Gp).2.1)) ++ (u64s ((mulP (nv m) Gp).2.2)))) 26] En132 Hv133 rfl (len_app rfl (len_app (u64s_lenh (mulP_len _ _).1) (u64s_lenh (mulP_len _ _).2))) (by rw [(len_app rfl (len_app (u64s_lenh (List.length_replicate)) (u64s_lenh (List.length_replicate))))]; first | decide | (simp; done)) (one_app (one_all (by kernel_rfl)) (one_app (u64s_one _) (u64s_one _))) (store_whole (len_app rfl (len_app (u64s_lenh (List.length_replicate)) (u64s_lenh (List.length_replicate))))) rfl fun ac139 wo140 En141 Hv142 => ?_
  exact a_e ⟨bk134, En141.sb, Hv142.pk [0, 1, 3, 4, 5]⟩
 rintro ac143 wo144 ⟨bk134, En145, Hv146⟩
 refine then_normal ?_
 refine wp_seq ?_
 refine r_c (fun ac wo => Env ac 70 [(3, pt bk1), (4, pt bk6), (6, .bool false), (7, .bool true), (8, pt bk54), (9, pt bk94), (10, pt bk134), (11, .bool true)] ∧ Ev w [] wo [.box bk1 (u64s k) 24, .box bk6 (u64s l) 24, .box bk54 (([.bool ((mulP (nv k) Gp).1)] : List Value) ++ ((u64s ((mulP (nv k) Gp).2.1)) ++ (u64s ((mulP (nv k) Gp).2.2)))) 26, .box bk94 (([.bool ((mulP (nv l) Gp).1)] : List Value) ++ ((u64s ((mulP (nv l) Gp).2.1)) ++ (u64s ((mulP (nv l) Gp).2.2)))) 26, .box bk134 (([.bool ((mulP (nv m) Gp).1)] : List Value) ++ ((u64s ((mulP (nv m) Gp).2.1)) ++ (u64s ((mulP (nv m) Gp).2.2)))) 26]) ?_ ?_
 ·
  refine s_g0 [(3, pt bk1), (4, pt bk6), (6, .bool false), (7, .bool true), (8, pt bk54), (9, pt bk94), (10, pt bk134)] [0,1,2,3,4,5,6,7,8,9,10,11] [(11, .bool true), (25, .agg (List.toArray (([.bool ((mulP (nv k) Gp).1)] : List Value) ++ ((u64s ((mulP (nv k) Gp).2.1)) ++ (u64s ((mulP (nv k) Gp).2.2)))))), (26, .agg (List.toArray (([.bool ((mulP (nv l) Gp).1)] : List Value) ++ ((u64s ((mulP (nv l) Gp).2.1)) ++ (u64s ((mulP (nv l) Gp).2.2)))))), (27, .agg (List.toArray (([.bool ((addP (mulP (nv k) Gp) (mulP (nv l) Gp)).1)] : List Value) ++ ((u64s ((addP (mulP (nv k) Gp) (mulP (nv l) Gp)).2.1)) ++ (u64s ((addP (mulP (nv k) Gp) (mulP (nv l) Gp)).2.2)))))), (28, .agg (List.toArray (([.bool ((mulP (nv m) Gp).1)] : List Value) ++ ((u64s ((mulP (nv m) Gp).2.1)) ++ (u64s ((mulP (nv m) Gp).2.2)))))), (29, .agg (List.toArray (([.bool ((addP (addP (mulP (nv k) Gp) (mulP (nv l) Gp)) (mulP (nv m) Gp)).1)] : List Value) ++ ((u64s ((addP (addP (mulP (nv k) Gp) (mulP (nv l) Gp)) (mulP (nv m) Gp)).2.1)) ++ (u64s ((addP (addP (mulP (nv k) Gp) (mulP (nv l) Gp)) (mulP (nv m) Gp)).2.2)))))), (30, .agg (List.toArray (([.bool ((mulP (nv k) Gp).1)] : List Value) ++ ((u64s ((mulP (nv k) Gp).2.1)) ++ (u64s ((mulP (nv k) Gp).2.2)))))), (31, .agg (List.toArray (([.bool ((mulP (nv l) Gp).1)] : List Value) ++ ((u64s ((mulP (nv l) Gp).2.1)) ++ (u64s ((mulP (nv l) Gp).2.2)))))), (32, .agg (List.toArray (([.bool ((mulP (nv m) Gp).1)] : List Value) ++ ((u64s ((mulP (nv m) Gp).2.1)) ++ (u64s ((mulP (nv m) Gp).2.2)))))), (33, .agg (List.toArray (([.bool ((addP (mulP (nv l) Gp) (mulP (nv m) Gp)).1)] : List Value) ++ ((u64s ((addP (mulP (nv l) Gp) (mulP (nv m) Gp)).2.1)) ++ (u64s ((addP (mulP (nv l) Gp) (mulP (nv m) Gp)).2.2)))))), (34, .agg (List.toArray (([.bool ((addP (mulP (nv k) Gp) (addP (mulP (nv l) Gp) (mulP (nv m) Gp))).1)] : List Value) ++ ((u64s ((addP (mulP (nv k) Gp) (addP (mulP (nv l) Gp) (mulP (nv m) Gp))).2.1)) ++ (u64s ((addP (mulP (nv k) Gp) (addP (mulP (nv l) Gp) (mulP (nv m) Gp))).2.2)))))), (35, .bool true)] 0 [(3, pt bk1), (4, pt bk6), (6, .bool false), (7, .bool true), (8, pt bk54), (9, pt bk94), (10, pt bk134), (11, .bool true)] (En145.sb) (Hv146.trans (Ev.drew Hv146.heap)) ?_ fun ac220 wo221 En222 Hv223 => ?_
  ·
   refine s_a 2 0 9 (([.bool ((mulP (nv k) Gp).1)] : List Value) ++ ((u64s ((mulP (nv k) Gp).2.1)) ++ (u64s ((mulP (nv k) Gp).2.2)))) rfl (load_whole (len_app rfl (len_app (u64s_lenh (mulP_len _ _).1) (u64s_lenh (mulP_len _ _).2)))) (len_app rfl (len_app (u64s_lenh (mulP_len _ _).1) (u64s_lenh (mulP_len _ _).2))) ?_
   refine s_a 3 0 9 (([.bool ((mulP (nv l) Gp).1)] : List Value) ++ ((u64s ((mulP (nv l) Gp).2.1)) ++ (u64s ((mulP (nv l) Gp).2.2)))) rfl (load_whole (len_app rfl (len_app (u64s_lenh (mulP_len _ _).1) (u64s_lenh (mulP_len _ _).2)))) (len_app rfl (len_app (u64s_lenh (mulP_len _ _).1) (u64s_lenh (mulP_len _ _).2))) ?_
   refine s_f (fun _ => padd_go _ ((mulP (nv k) Gp).1) ((mulP (nv k) Gp).2.1) ((mulP (nv k) Gp).2.2) ((mulP_len _ _).1) ((mulP_len _ _).2) ((mulP (nv l) Gp).1) ((mulP (nv l) Gp).2.1) ((mulP (nv l) Gp).2.2) ((mulP_len _ _).1) ((mulP_len _ _).2)) ?_
   refine s_a 4 0 9 (([.bool ((mulP (nv m) Gp).1)] : List Value) ++ ((u64s ((mulP (nv m) Gp).2.1)) ++ (u64s ((mulP (nv m) Gp).2.2)))) rfl (load_whole (len_app rfl (len_app (u64s_lenh (mulP_len _ _).1) (u64s_lenh (mulP_len _ _).2)))) (len_app rfl (len_app (u64s_lenh (mulP_len _ _).1) (u64s_lenh (mulP_len _ _).2))) ?_
   refine s_f (fun _ => padd_go _ ((addP (mulP (nv k) Gp) (mulP (nv l) Gp)).1) ((addP (mulP (nv k) Gp) (mulP (nv l) Gp)).2.1) ((addP (mulP (nv k) Gp) (mulP (nv l) Gp)).2.2) ((addP_len _ _).1) ((addP_len _ _).2) ((mulP (nv m) Gp).1) ((mulP (nv m) Gp).2.1) ((mulP (nv m) Gp).2.2) ((mulP_len _ _).1) ((mulP_len _ _).2)) ?_
   refine s_a 2 0 9 (([.bool ((mulP (nv k) Gp).1)] : List Value) ++ ((u64s ((mulP (nv k) Gp).2.1)) ++ (u64s ((mulP (nv k) Gp).2.2)))) rfl (load_whole (len_app rfl (len_app (u64s_lenh (mulP_len _ _).1) (u64s_lenh (mulP_len _ _).2)))) (len_app rfl (len_app (u64s_lenh (mulP_len _ _).1) (u64s_lenh (mulP_len _ _).2))) ?_
   refine s_a 3 0 9 (([.bool ((mulP (nv l) Gp).1)] : List Value) ++ ((u64s ((mulP (nv l) Gp).2.1)) ++ (u64s ((mulP (nv l) Gp).2.2)))) rfl (load_whole (len_app rfl (len_app (u64s_lenh (mulP_len _ _).1) (u64s_lenh (mulP_len _ _).2)))) (len_app rfl (len_app (u64s_lenh (mulP_len _ _).1) (u64s_lenh (mulP_len _ _).2))) ?_
   refine s_a 4 0 9 (([.bool ((mulP (nv m) Gp).1)] : List Value) ++ ((u64s ((mulP (nv m) Gp).2.1)) ++ (u64s ((mulP (nv m) Gp).2.2)))) rfl (load_whole (len_app rfl (len_app (u64s_lenh (mulP_len _ _).1) (u64s_lenh (mulP_len _ _).2)))) (len_app rfl (len_app (u64s_lenh (mulP_len _ _).1) (u64s_lenh (mulP_len _ _).2))) ?_
   refine s_f (fun _ => padd_go _ ((mulP (nv l) Gp).1) ((mulP (nv l) Gp).2.1) ((mulP (nv l) Gp).2.2) ((mulP_len _ _).1) ((mulP_len _ _).2) ((mulP (nv m) Gp).1) ((mulP (nv m) Gp).2.1) ((mulP (nv m) Gp).2.2) ((mulP_len _ _).1) ((mulP_len _ _).2)) ?_
   refine s_f (fun _ => padd_go _ ((mulP (nv k) Gp).1) ((mulP (nv k) Gp).2.1) ((mulP (nv k) Gp).2.2) ((mulP_len _ _).1) ((mulP_len _ _).2) ((addP (mulP (nv l) Gp) (mulP (nv m) Gp)).1) ((addP (mulP (nv l) Gp) (mulP (nv m) Gp)).2.1) ((addP (mulP (nv l) Gp) (mulP (nv m) Gp)).2.2) ((addP_len _ _).1) ((addP_len _ _).2)) ?_
   refine s_c (fun Mx213 ac214 wo215 En216 Hv217 => ?_) ?_
   ·
    refine q_v (x := eqOp .eql 26 (.tmp 29) (.tmp 34) (.agg (List.toArray (([.bool ((addP (addP (mulP (nv k) Gp) (mulP (nv l) Gp)) (mulP (nv m) Gp)).1)] : List Value) ++ ((u64s ((addP (addP (mulP (nv k) Gp) (mulP (nv l) Gp)) (mulP (nv m) Gp)).2.1)) ++ (u64s ((addP (addP (mulP (nv k) Gp) (mulP (nv l) Gp)) (mulP (nv m) Gp)).2.2)))))) (.agg (List.toArray (([.bool ((addP (mulP (nv k) Gp) (addP (mulP (nv l) Gp) (mulP (nv m) Gp))).1)] : List Value) ++ ((u64s ((addP (mulP (nv k) Gp) (addP (mulP (nv l) Gp) (mulP (nv m) Gp))).2.1)) ++ (u64s ((addP (mulP (nv k) Gp) (addP (mulP (nv l) Gp) (mulP (nv m) Gp))).2.2))))))) (v := .bool true) En216 (Go.Dbr.run_is (fun w => Go.Dbr.pnt_eqop (a := (.tmp 29)) (b := (.tmp 34)) isP (addP_len _ _).1 (addP_len _ _).2 (addP_len _ _).1 (addP_len _ _).2 w) (pzeq (lawGroup1 _ _ _)) _) fun ac218 En219 => ?_
    exact s_e En219 Hv217
   refine s_p [] ?_
   exact s_n
  exact a_e ⟨En222.sb, Hv223.pk [0, 1, 2, 3, 4]⟩
 rintro ac224 wo225 ⟨En226, Hv227⟩
 refine then_normal ?_
 refine wp_seq ?_
 refine r_c (fun ac wo => Env ac 70 [(3, pt bk1), (4, pt bk6), (6, .bool false), (7, .bool true), (8, pt bk54), (9, pt bk94), (10, pt bk134), (11, .bool true), (12, .bool true)] ∧ Ev w [] wo [.box bk1 (u64s k) 24, .box bk6 (u64s l) 24, .box bk54 (([.bool ((mulP (nv k) Gp).1)] : List Value) ++ ((u64s ((mulP (nv k) Gp).2.1)) ++ (u64s ((mulP (nv k) Gp).2.2)))) 26, .box bk94 (([.bool ((mulP (nv l) Gp).1)] : List Value) ++ ((u64s ((mulP (nv l) Gp).2.1)) ++ (u64s ((mulP (nv l) Gp).2.2)))) 26, .box bk134 (([.bool ((mulP (nv m) Gp).1)] : List Value) ++ ((u64s ((mulP (nv m) Gp).2.1)) ++ (u64s ((mulP (nv m) Gp).2.2)))) 26]) ?_ ?_
 ·
  refine s_g0 [(3, pt bk1), (4, pt bk6), (6, .bool false), (7, .bool true), (8, pt bk54), (9, pt bk94), (10, pt bk134), (11, .bool true)] [0,1,2,3,4,5,6,7] [(12, .bool true), (36, .agg (List.toArray (([.bool ((mulP (nv k) Gp).1)] : List Value) ++ ((u64s ((mulP (nv k) Gp).2.1)) ++ (u64s ((mulP (nv k) Gp).2.2)))))), (37, .agg (List.toArray (([.bool ((mulP (nv l) Gp).1)] : List Value) ++ ((u64s ((mulP (nv l) Gp).2.1)) ++ (u64s ((mulP (nv l) Gp).2.2)))))), (38, .agg (List.toArray (([.bool ((addP (mulP (nv k) Gp) (mulP (nv l) Gp)).1)] : List Value) ++ ((u64s ((addP (mulP (nv k) Gp) (mulP (nv l) Gp)).2.1)) ++ (u64s ((addP (mulP (nv k) Gp) (mulP (nv l) Gp)).2.2)))))), (39, .agg (List.toArray (([.bool ((mulP (nv l) Gp).1)] : List Value) ++ ((u64s ((mulP (nv l) Gp).2.1)) ++ (u64s ((mulP (nv l) Gp).2.2)))))), (40, .agg (List.toArray (([.bool ((mulP (nv k) Gp).1)] : List Value) ++ ((u64s ((mulP (nv k) Gp).2.1)) ++ (u64s ((mulP (nv k) Gp).2.2)))))), (41, .agg (List.toArray (([.bool ((addP (mulP (nv l) Gp) (mulP (nv k) Gp)).1)] : List Value) ++ ((u64s ((addP (mulP (nv l) Gp) (mulP (nv k) Gp)).2.1)) ++ (u64s ((addP (mulP (nv l) Gp) (mulP (nv k) Gp)).2.2)))))), (42, .bool true)] 0 [(3, pt bk1), (4, pt bk6), (6, .bool false), (7, .bool true), (8, pt bk54), (9, pt bk94), (10, pt bk134), (11, .bool true), (12, .bool true)] (En226.sb) (Hv227.trans (Ev.drew Hv227.heap)) ?_ fun ac273 wo274 En275 Hv276 => ?_
  ·
   refine s_a 2 0 9 (([.bool ((mulP (nv k) Gp).1)] : List Value) ++ ((u64s ((mulP (nv k) Gp).2.1)) ++ (u64s ((mulP (nv k) Gp).2.2)))) rfl (load_whole (len_app rfl (len_app (u64s_lenh (mulP_len _ _).1) (u64s_lenh (mulP_len _ _).2)))) (len_app rfl (len_app (u64s_lenh (mulP_len _ _).1) (u64s_lenh (mulP_len _ _).2))) ?_
   refine s_a 3 0 9 (([.bool ((mulP (nv l) Gp).1)] : List Value) ++ ((u64s ((mulP (nv l) Gp).2.1)) ++ (u64s ((mulP (nv l) Gp).2.2)))) rfl (load_whole (len_app rfl (len_app (u64s_lenh (mulP_len _ _).1) (u64s_lenh (mulP_len _ _).2)))) (len_app rfl (len_app (u64s_lenh (mulP_len _ _).1) (u64s_lenh (mulP_len _ _).2))) ?_
   refine s_f (fun _ => padd_go _ ((mulP (nv k) Gp).1) ((mulP (nv k) Gp).2.1) ((mulP (nv k) Gp).2.2) ((mulP_len _ _).1) ((mulP_len _ _).2) ((mulP (nv l) Gp).1) ((mulP (nv l) Gp).2.1) ((mulP (nv l) Gp).2.2) ((mulP_len _ _).1) ((mulP_len _ _).2)) ?_
   refine s_a 3 0 9 (([.bool ((mulP (nv l) Gp).1)] : List Value) ++ ((u64s ((mulP (nv l) Gp).2.1)) ++ (u64s ((mulP (nv l) Gp).2.2)))) rfl (load_whole (len_app rfl (len_app (u64s_lenh (mulP_len _ _).1) (u64s_lenh (mulP_len _ _).2)))) (len_app rfl (len_app (u64s_lenh (mulP_len _ _).1) (u64s_lenh (mulP_len _ _).2))) ?_
   refine s_a 2 0 9 (([.bool ((mulP (nv k) Gp).1)] : List Value) ++ ((u64s ((mulP (nv k) Gp).2.1)) ++ (u64s ((mulP (nv k) Gp).2.2)))) rfl (load_whole (len_app rfl (len_app (u64s_lenh (mulP_len _ _).1) (u64s_lenh (mulP_len _ _).2)))) (len_app rfl (len_app (u64s_lenh (mulP_len _ _).1) (u64s_lenh (mulP_len _ _).2))) ?_
   refine s_f (fun _ => padd_go _ ((mulP (nv l) Gp).1) ((mulP (nv l) Gp).2.1) ((mulP (nv l) Gp).2.2) ((mulP_len _ _).1) ((mulP_len _ _).2) ((mulP (nv k) Gp).1) ((mulP (nv k) Gp).2.1) ((mulP (nv k) Gp).2.2) ((mulP_len _ _).1) ((mulP_len _ _).2)) ?_
   refine s_c (fun Mx266 ac267 wo268 En269 Hv270 => ?_) ?_
   ·
    refine q_v (x := eqOp .eql 26 (.tmp 38) (.tmp 41) (.agg (List.toArray (([.bool ((addP (mulP (nv k) Gp) (mulP (nv l) Gp)).1)] : List Value) ++ ((u64s ((addP (mulP (nv k) Gp) (mulP (nv l) Gp)).2.1)) ++ (u64s ((addP (mulP (nv k) Gp) (mulP (nv l) Gp)).2.2)))))) (.agg (List.toArray (([.bool ((addP (mulP (nv l) Gp) (mulP (nv k) Gp)).1)] : List Value) ++ ((u64s ((addP (mulP (nv l) Gp) (mulP (nv k) Gp)).2.1)) ++ (u64s ((addP (mulP (nv l) Gp) (mulP (nv k) Gp)).2.2))))))) (v := .bool true) En269 (Go.Dbr.run_is (fun w => Go.Dbr.pnt_eqop (a := (.tmp 38)) (b := (.tmp 41)) isP (addP_len _ _).1 (addP_len _ _).2 (addP_len _ _).1 (addP_len _ _).2 w) (pzeq (lawGroup2 _ _)) _) fun ac271 En272 => ?_
    exact s_e En272 Hv270
   refine s_p [] ?_
   exact s_n
  exact a_e ⟨En275.sb, Hv276.pk [0, 1, 2, 3, 4]⟩
 rintro ac277 wo278 ⟨En279, Hv280⟩
 refine then_normal ?_
 refine wp_seq ?_
 refine region_from ?_
 refine f_o ?_
 refine m_a 0 0 4 (u64s k) En279 Hv280 rfl (load_whole (u64s_lenh n_k)) (u64s_lenh n_k) fun ac281 En282 => ?_
 refine f_o ?_
 refine m_a 1 0 4 (u64s l) En282 Hv280 rfl (load_whole (u64s_lenh n_l)) (u64s_lenh n_l) fun ac283 En284 => ?_
 refine f_o ?_
 refine c_p En284 Hv280 (radd_go _ 3 h3f hL3 k l n_k n_l) fun ac289 wo286 En290 Hv291 => ?_
 refine f_o ?_
 refine c_p En290 Hv291 (pbase_go _) fun ac296 wo293 En297 Hv298 => ?_
 refine f_o ?_
 refine c_p En297 Hv298 (pmult_go _ (nd (addM 3 (nv k) (nv l))) (nds_len _ _) false (nd GX) (nd GY) (nds_len _ _) (nds_len _ _)) fun ac303 wo300 En304 Hv305 => ?_
 refine f_o ?_
 refine m_z 26 (([.bool false] : List Value) ++ ((u64s (List.replicate 4 0)) ++ (u64s (List.replicate 4 0)))) En304 Hv305 fun ac307 wo308 bk306 En309 Hv310 => ?_
 refine f_o ?_
 refine m_g 5 0 9 (([.bool ((mulP (nv (nd (addM 3 (nv k) (nv l)))) Gp).1)] : List Value) ++ ((u64s ((mulP (nv (nd (addM 3 (nv k) (nv l)))) Gp).2.1)) ++ (u64s ((mulP (nv (nd (addM 3 (nv k) (nv l)))) Gp).2.2)))) (([.bool ((mulP (nv (nd (addM 3 (nv k) (nv l)))) Gp).1)] : List Value) ++ ((u64s ((mulP (nv (nd (addM 3 (nv k) (nv l)))) Gp).2.1)) ++ (u64s ((mulP (nv (nd (addM 3 (nv k) (nv l)))) Gp).2.2)))) [.box bk1 (u64s k) 24, .box bk6 (u64s l) 24, .box bk54 (([.bool ((mulP (nv k) Gp).1)] : List Value) ++ ((u64s ((mulP (nv k) Gp).2.1)) ++ (u64s ((mulP (nv k) Gp).2.2)))) 26, .box bk94 (([.bool ((mulP (nv l) Gp).1)] : List Value) ++ ((u64s ((mulP (nv l) Gp).2.1)) ++ (u64s ((mulP (nv l) Gp).2.2)))) 26, .box bk134 (([.bool ((mulP (nv m) Gp).1)] : List Value) ++ ((u64s ((mulP (nv m) Gp).2.1)) ++ (u64s ((mulP (nv m) Gp).2.2)))) 26, .box bk306 (([.bool ((mulP (nv (nd (addM 3 (nv k) (nv l)))) Gp).1)] : List Value) ++ ((u64s ((mulP (nv (nd (addM 3 (nv k) (nv l)))) Gp).2.1)) ++ (u64s ((mulP (nv (nd (addM 3 (nv k) (nv l)))) Gp).2.2)))) 26] En309 Hv310 rfl (len_app rfl (len_app (u64s_lenh (mulP_len _ _).1) (u64s_lenh (mulP_len _ _).2))) (by rw [(len_app rfl (len_app (u64s_lenh (List.length_replicate)) (u64s_lenh (List.length_replicate))))]; first | decide | (simp; done)) (one_app (one_all (by kernel_rfl)) (one_app (u64s_one _) (u64s_one _))) (store_whole (len_app rfl (len_app (u64s_lenh (List.length_replicate)) (u64s_lenh (List.length_replicate))))) rfl fun ac311 wo312 En313 Hv314 => ?_
 refine f_e ?_
 refine then_normal ?_
 refine wp_seq ?_
 refine r_c (fun ac wo => ∃ (bk342 : Nat), Env ac 70 [(3, pt bk1), (4, pt bk6), (6, .bool false), (7, .bool true), (8, pt bk54), (9, pt bk94), (10, pt bk134), (11, .bool true), (12, .bool true), (13, pt bk306), (14, pt bk342)] ∧ Ev w [] wo [.box bk1 (u64s k) 24, .box bk6 (u64s l) 24, .box bk54 (([.bool ((mulP (nv k) Gp).1)] : List Value) ++ ((u64s ((mulP (nv k) Gp).2.1)) ++ (u64s ((mulP (nv k) Gp).2.2)))) 26, .box bk94 (([.bool ((mulP (nv l) Gp).1)] : List Value) ++ ((u64s ((mulP (nv l) Gp).2.1)) ++ (u64s ((mulP (nv l) Gp).2.2)))) 26, .box bk134 (([.bool ((mulP (nv m) Gp).1)] : List Value) ++ ((u64s ((mulP (nv m) Gp).2.1)) ++ (u64s ((mulP (nv m) Gp).2.2)))) 26, .box bk306 (([.bool ((mulP (nv (nd (addM 3 (nv k) (nv l)))) Gp).1)] : List Value) ++ ((u64s ((mulP (nv (nd (addM 3 (nv k) (nv l)))) Gp).2.1)) ++ (u64s ((mulP (nv (nd (addM 3 (nv k) (nv l)))) Gp).2.2)))) 26, .box bk342 (([.bool ((mulP (nv (nd (mF 3))) (mulP (nv k) Gp)).1)] : List Value) ++ ((u64s ((mulP (nv (nd (mF 3))) (mulP (nv k) Gp)).2.1)) ++ (u64s ((mulP (nv (nd (mF 3))) (mulP (nv k) Gp)).2.2)))) 26]) ?_ ?_
 ·
  refine s_g1 [(3, pt bk1), (4, pt bk6), (6, .bool false), (7, .bool true), (8, pt bk54), (9, pt bk94), (10, pt bk134), (11, .bool true), (12, .bool true), (13, pt bk306)] [0,1,2] [(48, .agg (List.toArray (u64s (nd (mF 3))))), (49, .agg (List.toArray (([.bool ((mulP (nv k) Gp).1)] : List Value) ++ ((u64s ((mulP (nv k) Gp).2.1)) ++ (u64s ((mulP (nv k) Gp).2.2)))))), (50, .agg (List.toArray (([.bool ((mulP (nv (nd (mF 3))) (mulP (nv k) Gp)).1)] : List Value) ++ ((u64s ((mulP (nv (nd (mF 3))) (mulP (nv k) Gp)).2.1)) ++ (u64s ((mulP (nv (nd (mF 3))) (mulP (nv k) Gp)).2.2))))))] 1 [(3, pt bk1), (4, pt bk6), (6, .bool false), (7, .bool true), (8, pt bk54), (9, pt bk94), (10, pt bk134), (11, .bool true), (12, .bool true), (13, pt bk306), (50, .agg (List.toArray (([.bool ((mulP (nv (nd (mF 3))) (mulP (nv k) Gp)).1)] : List Value) ++ ((u64s ((mulP (nv (nd (mF 3))) (mulP (nv k) Gp)).2.1)) ++ (u64s ((mulP (nv (nd (mF 3))) (mulP (nv k) Gp)).2.2))))))] 3 (([.bool false] : List Value) ++ ((u64s (List.replicate 4 0)) ++ (u64s (List.replicate 4 0)))) (En313.sb) (Hv314.trans (Ev.drew Hv314.heap)) ?_ fun ac338 wo339 bk342 En340 Hv341 => ?_
  ·
   refine s_f (fun _ => rmodulus_go _ 3) ?_
   refine s_a 2 0 9 (([.bool ((mulP (nv k) Gp).1)] : List Value) ++ ((u64s ((mulP (nv k) Gp).2.1)) ++ (u64s ((mulP (nv k) Gp).2.2)))) rfl (load_whole (len_app rfl (len_app (u64s_lenh (mulP_len _ _).1) (u64s_lenh (mulP_len _ _).2)))) (len_app rfl (len_app (u64s_lenh (mulP_len _ _).1) (u64s_lenh (mulP_len _ _).2))) ?_
   refine s_f (fun _ => pmult_go _ (nd (mF 3)) (nds_len _ _) ((mulP (nv k) Gp).1) ((mulP (nv k) Gp).2.1) ((mulP (nv k) Gp).2.2) ((mulP_len _ _).1) ((mulP_len _ _).2)) ?_
   exact s_n
  refine q_u 4 ?_
  refine m_g 6 0 9 (([.bool ((mulP (nv (nd (mF 3))) (mulP (nv k) Gp)).1)] : List Value) ++ ((u64s ((mulP (nv (nd (mF 3))) (mulP (nv k) Gp)).2.1)) ++ (u64s ((mulP (nv (nd (mF 3))) (mulP (nv k) Gp)).2.2)))) (([.bool ((mulP (nv (nd (mF 3))) (mulP (nv k) Gp)).1)] : List Value) ++ ((u64s ((mulP (nv (nd (mF 3))) (mulP (nv k) Gp)).2.1)) ++ (u64s ((mulP (nv (nd (mF 3))) (mulP (nv k) Gp)).2.2)))) [.box bk1 (u64s k) 24, .box bk6 (u64s l) 24, .box bk54 (([.bool ((mulP (nv k) Gp).1)] : List Value) ++ ((u64s ((mulP (nv k) Gp).2.1)) ++ (u64s ((mulP (nv k) Gp).2.2)))) 26, .box bk94 (([.bool ((mulP (nv l) Gp).1)] : List Value) ++ ((u64s ((mulP (nv l) Gp).2.1)) ++ (u64s ((mulP (nv l) Gp).2.2)))) 26, .box bk134 (([.bool ((mulP (nv m) Gp).1)] : List Value) ++ ((u64s ((mulP (nv m) Gp).2.1)) ++ (u64s ((mulP (nv m) Gp).2.2)))) 26, .box bk306 (([.bool ((mulP (nv (nd (addM 3 (nv k) (nv l)))) Gp).1)] : List Value) ++ ((u64s ((mulP (nv (nd (addM 3 (nv k) (nv l)))) Gp).2.1)) ++ (u64s ((mulP (nv (nd (addM 3 (nv k) (nv l)))) Gp).2.2)))) 26, .box bk342 (([.bool ((mulP (nv (nd (mF 3))) (mulP (nv k) Gp)).1)] : List Value) ++ ((u64s ((mulP (nv (nd (mF 3))) (mulP (nv k) Gp)).2.1)) ++ (u64s ((mulP (nv (nd (mF 3))) (mulP (nv k) Gp)).2.2)))) 26] En340 Hv341 rfl (len_app rfl (len_app (u64s_lenh (mulP_len _ _).1) (u64s_lenh (mulP_len _ _).2))) (by rw [(len_app rfl (len_app (u64s_lenh (List.length_replicate)) (u64s_lenh (List.length_replicate))))]; first | decide | (simp; done)) (one_app (one_all (by kernel_rfl)) (one_app (u64s_one _) (u64s_one _))) (store_whole (len_app rfl (len_app (u64s_lenh (List.length_replicate)) (u64s_lenh (List.length_replicate))))) rfl fun ac347 wo348 En349 Hv350 => ?_
  exact a_e ⟨bk342, En349.sb, Hv350.pk [0, 1, 2, 3, 4, 5, 6]⟩
 rintro ac351 wo352 ⟨bk342, En353, Hv354⟩
 refine then_normal ?_
 refine wp_seq ?_
 refine r_c (fun ac wo => Env ac 70 [(3, pt bk1), (4, pt bk6), (6, .bool true), (8, pt bk54), (9, pt bk94), (10, pt bk134), (13, pt bk306), (14, pt bk342)] ∧ Ev w [] wo [.box bk1 (u64s k) 24, .box bk6 (u64s l) 24, .box bk54 (([.bool ((mulP (nv k) Gp).1)] : List Value) ++ ((u64s ((mulP (nv k) Gp).2.1)) ++ (u64s ((mulP (nv k) Gp).2.2)))) 26, .box bk94 (([.bool ((mulP (nv l) Gp).1)] : List Value) ++ ((u64s ((mulP (nv l) Gp).2.1)) ++ (u64s ((mulP (nv l) Gp).2.2)))) 26, .box bk134 (([.bool ((mulP (nv m) Gp).1)] : List Value) ++ ((u64s ((mulP (nv m) Gp).2.1)) ++ (u64s ((mulP (nv m) Gp).2.2)))) 26, .box bk306 (([.bool ((mulP (nv (nd (addM 3 (nv k) (nv l)))) Gp).1)] : List Value) ++ ((u64s ((mulP (nv (nd (addM 3 (nv k) (nv l)))) Gp).2.1)) ++ (u64s ((mulP (nv (nd (addM 3 (nv k) (nv l)))) Gp).2.2)))) 26, .box bk342 (([.bool ((mulP (nv (nd (mF 3))) (mulP (nv k) Gp)).1)] : List Value) ++ ((u64s ((mulP (nv (nd (mF 3))) (mulP (nv k) Gp)).2.1)) ++ (u64s ((mulP (nv (nd (mF 3))) (mulP (nv k) Gp)).2.2)))) 26]) ?_ ?_
 ·
  refine s_g0 [(3, pt bk1), (4, pt bk6), (7, .bool true), (8, pt bk54), (9, pt bk94), (10, pt bk134), (11, .bool true), (12, .bool true), (13, pt bk306), (14, pt bk342)] [0,1,2,3,4,5,6,7,8,9,10,11,12,13,14,15,16,17,18,19] [(6, .bool true), (51, .bool true), (52, .bool true), (53, .bool true), (54, .bool true), (55, .bool true), (56, .bool true), (57, .bool true), (58, .bool true), (59, .agg (List.toArray (([.bool ((mulP (nv (nd (addM 3 (nv k) (nv l)))) Gp).1)] : List Value) ++ ((u64s ((mulP (nv (nd (addM 3 (nv k) (nv l)))) Gp).2.1)) ++ (u64s ((mulP (nv (nd (addM 3 (nv k) (nv l)))) Gp).2.2)))))), (60, .agg (List.toArray (([.bool ((mulP (nv k) Gp).1)] : List Value) ++ ((u64s ((mulP (nv k) Gp).2.1)) ++ (u64s ((mulP (nv k) Gp).2.2)))))), (61, .agg (List.toArray (([.bool ((mulP (nv l) Gp).1)] : List Value) ++ ((u64s ((mulP (nv l) Gp).2.1)) ++ (u64s ((mulP (nv l) Gp).2.2)))))), (62, .agg (List.toArray (([.bool ((addP (mulP (nv k) Gp) (mulP (nv l) Gp)).1)] : List Value) ++ ((u64s ((addP (mulP (nv k) Gp) (mulP (nv l) Gp)).2.1)) ++ (u64s ((addP (mulP (nv k) Gp) (mulP (nv l) Gp)).2.2)))))), (63, .bool true), (64, .bool true), (65, .bool true), (66, .agg (List.toArray (([.bool ((mulP (nv (nd (mF 3))) (mulP (nv k) Gp)).1)] : List Value) ++ ((u64s ((mulP (nv (nd (mF 3))) (mulP (nv k) Gp)).2.1)) ++ (u64s ((mulP (nv (nd (mF 3))) (mulP (nv k) Gp)).2.2)))))), (67, .agg (List.toArray (([.bool true] : List Value) ++ ((u64s (List.replicate 4 0)) ++ (u64s (List.replicate 4 0)))))), (68, .bool true), (69, .bool true)] 0 [(3, pt bk1), (4, pt bk6), (6, .bool true), (8, pt bk54), (9, pt bk94), (10, pt bk134), (13, pt bk306), (14, pt bk342)] (En353.sb) (Hv354.trans (Ev.drew Hv354.heap)) ?_ fun ac405 wo406 En407 Hv408 => ?_
  ·
   refine s_p [] ?_
   refine s_p [] ?_
   refine s_p [] ?_
   refine s_p [] ?_
   refine s_p [] ?_
   refine s_p [] ?_
   refine s_p [] ?_
   refine s_p [] ?_
   refine s_a 5 0 9 (([.bool ((mulP (nv (nd (addM 3 (nv k) (nv l)))) Gp).1)] : List Value) ++ ((u64s ((mulP (nv (nd (addM 3 (nv k) (nv l)))) Gp).2.1)) ++ (u64s ((mulP (nv (nd (addM 3 (nv k) (nv l)))) Gp).2.2)))) rfl (load_whole (len_app rfl (len_app (u64s_lenh (mulP_len _ _).1) (u64s_lenh (mulP_len _ _).2)))) (len_app rfl (len_app (u64s_lenh (mulP_len _ _).1) (u64s_lenh (mulP_len _ _).2))) ?_
   refine s_a 2 0 9 (([.bool ((mulP (nv k) Gp).1)] : List Value) ++ ((u64s ((mulP (nv k) Gp).2.1)) ++ (u64s ((mulP (nv k) Gp).2.2)))) rfl (load_whole (len_app rfl (len_app (u64s_lenh (mulP_len _ _).1) (u64s_lenh (mulP_len _ _).2)))) (len_app rfl (len_app (u64s_lenh (mulP_len _ _).1) (u64s_lenh (mulP_len _ _).2))) ?_
   refine s_a 3 0 9 (([.bool ((mulP (nv l) Gp).1)] : List Value) ++ ((u64s ((mulP (nv l) Gp).2.1)) ++ (u64s ((mulP (nv l) Gp).2.2)))) rfl (load_whole (len_app rfl (len_app (u64s_lenh (mulP_len _ _).1) (u64s_lenh (mulP_len _ _).2)))) (len_app rfl (len_app (u64s_lenh (mulP_len _ _).1) (u64s_lenh (mulP_len _ _).2))) ?_
   refine s_f (fun _ => padd_go _ ((mulP (nv k) Gp).1) ((mulP (nv k) Gp).2.1) ((mulP (nv k) Gp).2.2) ((mulP_len _ _).1) ((mulP_len _ _).2) ((mulP (nv l) Gp).1) ((mulP (nv l) Gp).2.1) ((mulP (nv l) Gp).2.2) ((mulP_len _ _).1) ((mulP_len _ _).2)) ?_
   refine s_c (fun Mx379 ac380 wo381 En382 Hv383 => ?_) ?_
   ·
    refine q_v (x := eqOp .eql 26 (.tmp 59) (.tmp 62) (.agg (List.toArray (([.bool ((mulP (nv (nd (addM 3 (nv k) (nv l)))) Gp).1)] : List Value) ++ ((u64s ((mulP (nv (nd (addM 3 (nv k) (nv l)))) Gp).2.1)) ++ (u64s ((mulP (nv (nd (addM 3 (nv k) (nv l)))) Gp).2.2)))))) (.agg (List.toArray (([.bool ((addP (mulP (nv k) Gp) (mulP (nv l) Gp)).1)] : List Value) ++ ((u64s ((addP (mulP (nv k) Gp) (mulP (nv l) Gp)).2.1)) ++ (u64s ((addP (mulP (nv k) Gp) (mulP (nv l) Gp)).2.2))))))) (v := .bool true) En382 (Go.Dbr.run_is (fun w => Go.Dbr.pnt_eqop (a := (.tmp 59)) (b := (.tmp 62)) isP (mulP_len _ _).1 (mulP_len _ _).2 (addP_len _ _).1 (addP_len _ _).2 w) (pzeq (by rw [nv_a3]; exact lawGroup3 _ _)) _) fun ac384 En385 => ?_
    exact s_e En385 Hv383
   refine s_p [] ?_
   refine s_p [] ?_
   refine s_a 6 0 9 (([.bool ((mulP (nv (nd (mF 3))) (mulP (nv k) Gp)).1)] : List Value) ++ ((u64s ((mulP (nv (nd (mF 3))) (mulP (nv k) Gp)).2.1)) ++ (u64s ((mulP (nv (nd (mF 3))) (mulP (nv k) Gp)).2.2)))) rfl (load_whole (len_app rfl (len_app (u64s_lenh (mulP_len _ _).1) (u64s_lenh (mulP_len _ _).2)))) (len_app rfl (len_app (u64s_lenh (mulP_len _ _).1) (u64s_lenh (mulP_len _ _).2))) ?_
   refine s_c (fun Mx391 ac392 wo393 En394 Hv395 => ?_) ?_
   ·
    refine q_v (x := Instr.build 26 #[(0, .bool true)]) (v := .agg (List.toArray (([.bool true] : List Value) ++ ((u64s (List.replicate 4 0)) ++ (u64s (List.replicate 4 0)))))) En394 (Go.Dbr.run_built [(0, 1), (1, 4), (5, 4)] [⟨1, [.bool false], some (0, .bool true, [.bool true])⟩, ⟨4, u64s (List.replicate 4 0), none⟩, ⟨4, u64s (List.replicate 4 0), none⟩] (fb_y rfl rfl (fb_n (u64s_lenh (List.length_replicate)) (fb_n (u64s_lenh (List.length_replicate)) trivial))) _) fun ac396 En397 => ?_
    exact s_e En397 Hv395
   refine s_c (fun Mx398 ac399 wo400 En401 Hv402 => ?_) ?_
   ·
    refine q_v (x := eqOp .eql 26 (.tmp 66) (.tmp 67) (.agg (List.toArray (([.bool ((mulP (nv (nd (mF 3))) (mulP (nv k) Gp)).1)] : List Value) ++ ((u64s ((mulP (nv (nd (mF 3))) (mulP (nv k) Gp)).2.1)) ++ (u64s ((mulP (nv (nd (mF 3))) (mulP (nv k) Gp)).2.2)))))) (.agg (List.toArray (([.bool true] : List Value) ++ ((u64s (List.replicate 4 0)) ++ (u64s (List.replicate 4 0))))))) (v := .bool true) En401 (Go.Dbr.run_is (fun w => Go.Dbr.pnt_eqop (a := (.tmp 66)) (b := (.tmp 67)) isP (mulP_len _ _).1 (mulP_len _ _).2 (List.length_replicate) (List.length_replicate) w) (pzeq (b := zeroP) (by rw [nv_mF]; exact lawGroup4 _)) _) fun ac403 En404 => ?_
    exact s_e En404 Hv402
   refine s_p [] ?_
   refine s_p [] ?_
   exact s_n
  exact a_e ⟨En407.sb, Hv408.pk [0, 1, 2, 3, 4, 5, 6]⟩
 rintro ac409 wo410 ⟨En411, Hv412⟩
 refine then_normal ?_
 refine wp_ret ?_
 refine d_ret1 (t := 6) (v := .bool true) En411 (by kernel_rfl) (by kernel_rfl) ?_
 exact ⟨by first | rfl | kernel_rfl, Hv412.pk []⟩

theorem turns_walk (k : List UInt64) (l : List UInt64) (w : World) (n_k : (List.length k = 4)) (n_l : (List.length l = 4)) : Calls Try.prog 6 #[.agg (List.toArray (u64s k)), .agg (List.toArray (u64s l))] w fun e w' => e = .returned (.bool true) ∧ Ev w [] w' [] := by
 refine d_0 [(0, .agg (List.toArray (u64s k))), (1, .agg (List.toArray (u64s l)))] 49 Go.Proofs.Try.func6 Go.Proofs.Try.ntmps6 (Heap.nil _) fun act0 En0 Hv0 => ?_
 refine wp_seq ?_
 refine region_from ?_
 refine f_o ?_
 refine m_m 24 (u64s k) En0 Hv0 fun ac2 wo3 bk1 En4 Hv5 => ?_
 refine f_o ?_
 refine m_m 24 (u64s l) En4 Hv5 fun ac7 wo8 bk6 En9 Hv10 => ?_
 refine d_e [2,3,4] [] En9 fun ac11 En12 => ?_
 refine then_normal ?_
 refine wp_seq ?_
 refine region_from ?_
 refine f_o ?_
 refine c_p En12 Hv10 (head_ok _) fun ac17 wo14 En18 Hv19 => ?_
 refine d_e [2,3,4,5] [] En18 fun ac20 En21 => ?_
 refine then_normal ?_
 refine wp_seq ?_
 refine r_c (fun ac wo => ∃ (bk63 : Nat), Env ac 49 [(2, pt bk1), (3, pt bk6), (4, .bool false), (5, .bool true), (6, pt bk63)] ∧ Ev w [] wo [.box bk1 (u64s k) 24, .box bk6 (u64s l) 24, .box bk63 (([.bool ((mulP (nv k) (mulP (nv l) Gp)).1)] : List Value) ++ ((u64s ((mulP (nv k) (mulP (nv l) Gp)).2.1)) ++ (u64s ((mulP (nv k) (mulP (nv l) Gp)).2.2)))) 26]) ?_ ?_
 ·
  refine s_g1 [(2, pt bk1), (3, pt bk6), (4, .bool false), (5, .bool true)] [0,1,2,3,4] [(10, .agg (List.toArray (u64s k))), (11, .agg (List.toArray (u64s l))), (12, .agg (List.toArray (([.bool false] : List Value) ++ ((u64s (nd GX)) ++ (u64s (nd GY)))))), (13, .agg (List.toArray (([.bool ((mulP (nv l) Gp).1)] : List Value) ++ ((u64s ((mulP (nv l) Gp).2.1)) ++ (u64s ((mulP (nv l) Gp).2.2)))))), (14, .agg (List.toArray (([.bool ((mulP (nv k) (mulP (nv l) Gp)).1)] : List Value) ++ ((u64s ((mulP (nv k) (mulP (nv l) Gp)).2.1)) ++ (u64s ((mulP (nv k) (mulP (nv l) Gp)).2.2))))))] 1 [(2, pt bk1), (3, pt bk6), (4, .bool false), (5, .bool true), (14, .agg (List.toArray (([.bool ((mulP (nv k) (mulP (nv l) Gp)).1)] : List Value) ++ ((u64s ((mulP (nv k) (mulP (nv l) Gp)).2.1)) ++ (u64s ((mulP (nv k) (mulP (nv l) Gp)).2.2))))))] 5 (([.bool false] : List Value) ++ ((u64s (List.replicate 4 0)) ++ (u64s (List.replicate 4 0)))) (En21.sb) (Hv19.trans (Ev.drew Hv19.heap)) ?_ fun ac59 wo60 bk63 En61 Hv62 => ?_
  ·
   refine s_a 0 0 4 (u64s k) rfl (load_whole (u64s_lenh n_k)) (u64s_lenh n_k) ?_
   refine s_a 1 0 4 (u64s l) rfl (load_whole (u64s_lenh n_l)) (u64s_lenh n_l) ?_
   refine s_f (fun _ => pbase_go _) ?_
   refine s_f (fun _ => pmult_go _ l n_l false (nd GX) (nd GY) (nds_len _ _) (nds_len _ _)) ?_
   refine s_f (fun _ => pmult_go _ k n_k ((mulP (nv l) Gp).1) ((mulP (nv l) Gp).2.1) ((mulP (nv l) Gp).2.2) ((mulP_len _ _).1) ((mulP_len _ _).2)) ?_
   exact s_n
  refine q_u 6 ?_
  refine m_g 2 0 9 (([.bool ((mulP (nv k) (mulP (nv l) Gp)).1)] : List Value) ++ ((u64s ((mulP (nv k) (mulP (nv l) Gp)).2.1)) ++ (u64s ((mulP (nv k) (mulP (nv l) Gp)).2.2)))) (([.bool ((mulP (nv k) (mulP (nv l) Gp)).1)] : List Value) ++ ((u64s ((mulP (nv k) (mulP (nv l) Gp)).2.1)) ++ (u64s ((mulP (nv k) (mulP (nv l) Gp)).2.2)))) [.box bk1 (u64s k) 24, .box bk6 (u64s l) 24, .box bk63 (([.bool ((mulP (nv k) (mulP (nv l) Gp)).1)] : List Value) ++ ((u64s ((mulP (nv k) (mulP (nv l) Gp)).2.1)) ++ (u64s ((mulP (nv k) (mulP (nv l) Gp)).2.2)))) 26] En61 Hv62 rfl (len_app rfl (len_app (u64s_lenh (mulP_len _ _).1) (u64s_lenh (mulP_len _ _).2))) (by rw [(len_app rfl (len_app (u64s_lenh (List.length_replicate)) (u64s_lenh (List.length_replicate))))]; first | decide | (simp; done)) (one_app (one_all (by kernel_rfl)) (one_app (u64s_one _) (u64s_one _))) (store_whole (len_app rfl (len_app (u64s_lenh (List.length_replicate)) (u64s_lenh (List.length_replicate))))) rfl fun ac68 wo69 En70 Hv71 => ?_
  exact a_e ⟨bk63, En70.sb, Hv71.pk [0, 1, 2]⟩
 rintro ac72 wo73 ⟨bk63, En74, Hv75⟩
 refine then_normal ?_
 refine wp_seq ?_
 refine r_c (fun ac wo => ∃ (bk117 : Nat), Env ac 49 [(2, pt bk1), (3, pt bk6), (4, .bool false), (5, .bool true), (6, pt bk63), (7, pt bk117)] ∧ Ev w [] wo [.box bk1 (u64s k) 24, .box bk6 (u64s l) 24, .box bk63 (([.bool ((mulP (nv k) (mulP (nv l) Gp)).1)] : List Value) ++ ((u64s ((mulP (nv k) (mulP (nv l) Gp)).2.1)) ++ (u64s ((mulP (nv k) (mulP (nv l) Gp)).2.2)))) 26, .box bk117 (([.bool ((mulP (nv l) (mulP (nv k) Gp)).1)] : List Value) ++ ((u64s ((mulP (nv l) (mulP (nv k) Gp)).2.1)) ++ (u64s ((mulP (nv l) (mulP (nv k) Gp)).2.2)))) 26]) ?_ ?_
 ·
  refine s_g1 [(2, pt bk1), (3, pt bk6), (4, .bool false), (5, .bool true), (6, pt bk63)] [0,1,2,3,4] [(15, .agg (List.toArray (u64s l))), (16, .agg (List.toArray (u64s k))), (17, .agg (List.toArray (([.bool false] : List Value) ++ ((u64s (nd GX)) ++ (u64s (nd GY)))))), (18, .agg (List.toArray (([.bool ((mulP (nv k) Gp).1)] : List Value) ++ ((u64s ((mulP (nv k) Gp).2.1)) ++ (u64s ((mulP (nv k) Gp).2.2)))))), (19, .agg (List.toArray (([.bool ((mulP (nv l) (mulP (nv k) Gp)).1)] : List Value) ++ ((u64s ((mulP (nv l) (mulP (nv k) Gp)).2.1)) ++ (u64s ((mulP (nv l) (mulP (nv k) Gp)).2.2))))))] 1 [(2, pt bk1), (3, pt bk6), (4, .bool false), (5, .bool true), (6, pt bk63), (19, .agg (List.toArray (([.bool ((mulP (nv l) (mulP (nv k) Gp)).1)] : List Value) ++ ((u64s ((mulP (nv l) (mulP (nv k) Gp)).2.1)) ++ (u64s ((mulP (nv l) (mulP (nv k) Gp)).2.2))))))] 5 (([.bool false] : List Value) ++ ((u64s (List.replicate 4 0)) ++ (u64s (List.replicate 4 0)))) (En74.sb) (Hv75.trans (Ev.drew Hv75.heap)) ?_ fun ac113 wo114 bk117 En115 Hv116 => ?_
  ·
   refine s_a 1 0 4 (u64s l) rfl (load_whole (u64s_lenh n_l)) (u64s_lenh n_l) ?_
   refine s_a 0 0 4 (u64s k) rfl (load_whole (u64s_lenh n_k)) (u64s_lenh n_k) ?_
   refine s_f (fun _ => pbase_go _) ?_
   refine s_f (fun _ => pmult_go _ k n_k false (nd GX) (nd GY) (nds_len _ _) (nds_len _ _)) ?_
   refine s_f (fun _ => pmult_go _ l n_l ((mulP (nv k) Gp).1) ((mulP (nv k) Gp).2.1) ((mulP (nv k) Gp).2.2) ((mulP_len _ _).1) ((mulP_len _ _).2)) ?_
   exact s_n
  refine q_u 6 ?_
  refine m_g 3 0 9 (([.bool ((mulP (nv l) (mulP (nv k) Gp)).1)] : List Value) ++ ((u64s ((mulP (nv l) (mulP (nv k) Gp)).2.1)) ++ (u64s ((mulP (nv l) (mulP (nv k) Gp)).2.2)))) (([.bool ((mulP (nv l) (mulP (nv k) Gp)).1)] : List Value) ++ ((u64s ((mulP (nv l) (mulP (nv k) Gp)).2.1)) ++ (u64s ((mulP (nv l) (mulP (nv k) Gp)).2.2)))) [.box bk1 (u64s k) 24, .box bk6 (u64s l) 24, .box bk63 (([.bool ((mulP (nv k) (mulP (nv l) Gp)).1)] : List Value) ++ ((u64s ((mulP (nv k) (mulP (nv l) Gp)).2.1)) ++ (u64s ((mulP (nv k) (mulP (nv l) Gp)).2.2)))) 26, .box bk117 (([.bool ((mulP (nv l) (mulP (nv k) Gp)).1)] : List Value) ++ ((u64s ((mulP (nv l) (mulP (nv k) Gp)).2.1)) ++ (u64s ((mulP (nv l) (mulP (nv k) Gp)).2.2)))) 26] En115 Hv116 rfl (len_app rfl (len_app (u64s_lenh (mulP_len _ _).1) (u64s_lenh (mulP_len _ _).2))) (by rw [(len_app rfl (len_app (u64s_lenh (List.length_replicate)) (u64s_lenh (List.length_replicate))))]; first | decide | (simp; done)) (one_app (one_all (by kernel_rfl)) (one_app (u64s_one _) (u64s_one _))) (store_whole (len_app rfl (len_app (u64s_lenh (List.length_replicate)) (u64s_lenh (List.length_replicate))))) rfl fun ac122 wo123 En124 Hv125 => ?_
  exact a_e ⟨bk117, En124.sb, Hv125.pk [0, 1, 2, 3]⟩
 rintro ac126 wo127 ⟨bk117, En128, Hv129⟩
 refine then_normal ?_
 refine wp_seq ?_
 refine region_from ?_
 refine f_o ?_
 refine m_a 2 0 9 (([.bool ((mulP (nv k) (mulP (nv l) Gp)).1)] : List Value) ++ ((u64s ((mulP (nv k) (mulP (nv l) Gp)).2.1)) ++ (u64s ((mulP (nv k) (mulP (nv l) Gp)).2.2)))) En128 Hv129 rfl (load_whole (len_app rfl (len_app (u64s_lenh (mulP_len _ _).1) (u64s_lenh (mulP_len _ _).2)))) (len_app rfl (len_app (u64s_lenh (mulP_len _ _).1) (u64s_lenh (mulP_len _ _).2))) fun ac130 En131 => ?_
 refine f_o ?_
 refine m_z 26 (([.bool false] : List Value) ++ ((u64s (List.replicate 4 0)) ++ (u64s (List.replicate 4 0)))) En131 Hv129 fun ac133 wo134 bk132 En135 Hv136 => ?_
 refine f_o ?_
 refine m_g 4 0 9 (([.bool ((mulP (nv k) (mulP (nv l) Gp)).1)] : List Value) ++ ((u64s ((mulP (nv k) (mulP (nv l) Gp)).2.1)) ++ (u64s ((mulP (nv k) (mulP (nv l) Gp)).2.2)))) (([.bool ((mulP (nv k) (mulP (nv l) Gp)).1)] : List Value) ++ ((u64s ((mulP (nv k) (mulP (nv l) Gp)).2.1)) ++ (u64s ((mulP (nv k) (mulP (nv l) Gp)).2.2)))) [.box bk1 (u64s k) 24, .box bk6 (u64s l) 24, .box bk63 (([.bool ((mulP (nv k) (mulP (nv l) Gp)).1)] : List Value) ++ ((u64s ((mulP (nv k) (mulP (nv l) Gp)).2.1)) ++ (u64s ((mulP (nv k) (mulP (nv l) Gp)).2.2)))) 26, .box bk117 (([.bool ((mulP (nv l) (mulP (nv k) Gp)).1)] : List Value) ++ ((u64s ((mulP (nv l) (mulP (nv k) Gp)).2.1)) ++ (u64s ((mulP (nv l) (mulP (nv k) Gp)).2.2)))) 26, .box bk132 (([.bool ((mulP (nv k) (mulP (nv l) Gp)).1)] : List Value) ++ ((u64s ((mulP (nv k) (mulP (nv l) Gp)).2.1)) ++ (u64s ((mulP (nv k) (mulP (nv l) Gp)).2.2)))) 26] En135 Hv136 rfl (len_app rfl (len_app (u64s_lenh (mulP_len _ _).1) (u64s_lenh (mulP_len _ _).2))) (by rw [(len_app rfl (len_app (u64s_lenh (List.length_replicate)) (u64s_lenh (List.length_replicate))))]; first | decide | (simp; done)) (one_app (one_all (by kernel_rfl)) (one_app (u64s_one _) (u64s_one _))) (store_whole (len_app rfl (len_app (u64s_lenh (List.length_replicate)) (u64s_lenh (List.length_replicate))))) rfl fun ac137 wo138 En139 Hv140 => ?_
 refine f_e ?_
 refine then_normal ?_
 refine wp_seq ?_
 refine wp_seq ?_
 refine region_from ?_
 refine d_k [2,3,4,5,6,7,8,21] [] 1 En139 fun ac141 En142 => ?_
 refine f_o ?_
 refine m_v 4 0 (.bool ((mulP (nv k) (mulP (nv l) Gp)).1)) En142 Hv140 rfl (seg_in rfl) fun ac143 En144 => ?_
 refine d_e [2,3,4,5,6,7,8,23] [] En144 fun ac145 En146 => ?_
 refine then_normal ?_
 refine cond_at En146 (t := !((mulP (nv k) (mulP (nv l) Gp)).1)) (by kernel_rfl) (fun hc147 => ?_) (fun hc147 => ?_)
 ·
  replace hc147 : ¬ ((mulP (nv k) (mulP (nv l) Gp)).1 = true) := by simpa using hc147
  refine region_from ?_
  refine d_k [2,3,4,5,6,7,8,24] [] 1 En146 fun ac148 En149 => ?_
  refine f_o ?_
  refine m_a 4 5 4 (u64s ((mulP (nv k) (mulP (nv l) Gp)).2.2)) En149 Hv140 rfl (by simp [u64s_lenh (mulP_len _ _).1, u64s_lenh (mulP_len _ _).2, List.drop_append, List.take_append, List.take_of_length_le]) (u64s_lenh (mulP_len _ _).2) fun ac150 En151 => ?_
  refine f_o ?_
  refine c_p En151 Hv140 (rneg_go _ 2 h2f hL2 ((mulP (nv k) (mulP (nv l) Gp)).2.2) (mulP_len _ _).2) fun ac156 wo153 En157 Hv158 => ?_
  refine d_k [2,3,4,5,6,7,8,26,27] [] 4 En157 fun ac159 En160 => ?_
  refine f_o ?_
  refine m_g 4 5 4 (u64s (nd (subM 2 0 (nv ((mulP (nv k) (mulP (nv l) Gp)).2.2))))) (([.bool ((mulP (nv k) (mulP (nv l) Gp)).1)] : List Value) ++ ((u64s ((mulP (nv k) (mulP (nv l) Gp)).2.1)) ++ (u64s (nd (subM 2 0 (nv ((mulP (nv k) (mulP (nv l) Gp)).2.2))))))) [.box bk1 (u64s k) 24, .box bk6 (u64s l) 24, .box bk63 (([.bool ((mulP (nv k) (mulP (nv l) Gp)).1)] : List Value) ++ ((u64s ((mulP (nv k) (mulP (nv l) Gp)).2.1)) ++ (u64s ((mulP (nv k) (mulP (nv l) Gp)).2.2)))) 26, .box bk117 (([.bool ((mulP (nv l) (mulP (nv k) Gp)).1)] : List Value) ++ ((u64s ((mulP (nv l) (mulP (nv k) Gp)).2.1)) ++ (u64s ((mulP (nv l) (mulP (nv k) Gp)).2.2)))) 26, .box bk132 (([.bool ((mulP (nv k) (mulP (nv l) Gp)).1)] : List Value) ++ ((u64s ((mulP (nv k) (mulP (nv l) Gp)).2.1)) ++ (u64s (nd (subM 2 0 (nv ((mulP (nv k) (mulP (nv l) Gp)).2.2))))))) 26] En160 Hv158 rfl (u64s_lenh (nds_len _ _)) (by rw [(len_app rfl (len_app (u64s_lenh (mulP_len _ _).1) (u64s_lenh (mulP_len _ _).2)))]; first | decide | (simp; done)) (u64s_one _) (by simp [u64s_lenh (mulP_len _ _).1, u64s_lenh (mulP_len _ _).2, List.drop_append, List.take_append]) rfl fun ac161 wo162 En163 Hv164 => ?_
  refine f_e ?_
  refine then_normal ?_
  refine wp_seq ?_
  refine region_from ?_
  refine d_k [2,3,4,6,7,8,29] [] 2 En163 fun ac165 En166 => ?_
  refine f_o ?_
  refine m_a 2 0 9 (([.bool ((mulP (nv k) (mulP (nv l) Gp)).1)] : List Value) ++ ((u64s ((mulP (nv k) (mulP (nv l) Gp)).2.1)) ++ (u64s ((mulP (nv k) (mulP (nv l) Gp)).2.2)))) En166 Hv164 rfl (load_whole (len_app rfl (len_app (u64s_lenh (mulP_len _ _).1) (u64s_lenh (mulP_len _ _).2)))) (len_app rfl (len_app (u64s_lenh (mulP_len _ _).1) (u64s_lenh (mulP_len _ _).2))) fun ac167 En168 => ?_
  refine f_o ?_
  refine m_a 3 0 9 (([.bool ((mulP (nv l) (mulP (nv k) Gp)).1)] : List Value) ++ ((u64s ((mulP (nv l) (mulP (nv k) Gp)).2.1)) ++ (u64s ((mulP (nv l) (mulP (nv k) Gp)).2.2)))) En168 Hv164 rfl (load_whole (len_app rfl (len_app (u64s_lenh (mulP_len _ _).1) (u64s_lenh (mulP_len _ _).2)))) (len_app rfl (len_app (u64s_lenh (mulP_len _ _).1) (u64s_lenh (mulP_len _ _).2))) fun ac169 En170 => ?_
  refine f_o ?_
  refine q_v (x := eqOp .eql 26 (.tmp 30) (.tmp 31) (.agg (List.toArray (([.bool ((mulP (nv k) (mulP (nv l) Gp)).1)] : List Value) ++ ((u64s ((mulP (nv k) (mulP (nv l) Gp)).2.1)) ++ (u64s ((mulP (nv k) (mulP (nv l) Gp)).2.2)))))) (.agg (List.toArray (([.bool ((mulP (nv l) (mulP (nv k) Gp)).1)] : List Value) ++ ((u64s ((mulP (nv l) (mulP (nv k) Gp)).2.1)) ++ (u64s ((mulP (nv l) (mulP (nv k) Gp)).2.2))))))) (v := .bool true) En170 (Go.Dbr.run_is (fun w => Go.Dbr.pnt_eqop (a := (.tmp 30)) (b := (.tmp 31)) isP (mulP_len _ _).1 (mulP_len _ _).2 (mulP_len _ _).1 (mulP_len _ _).2 w) (pzeq (lawTurn _ _)) _) fun ac171 En172 => ?_
  refine d_k [2,3,4,6,7,8,34] [] 7 En172 fun ac173 En174 => ?_
  refine f_o ?_
  refine m_a 2 0 9 (([.bool ((mulP (nv k) (mulP (nv l) Gp)).1)] : List Value) ++ ((u64s ((mulP (nv k) (mulP (nv l) Gp)).2.1)) ++ (u64s ((mulP (nv k) (mulP (nv l) Gp)).2.2)))) En174 Hv164 rfl (load_whole (len_app rfl (len_app (u64s_lenh (mulP_len _ _).1) (u64s_lenh (mulP_len _ _).2)))) (len_app rfl (len_app (u64s_lenh (mulP_len _ _).1) (u64s_lenh (mulP_len _ _).2))) fun ac175 En176 => ?_
  refine f_o ?_
  refine c_p En176 Hv164 (on_go _ ((mulP (nv k) (mulP (nv l) Gp)).1) ((mulP (nv k) (mulP (nv l) Gp)).2.1) ((mulP (nv k) (mulP (nv l) Gp)).2.2) ((mulP_len _ _).1) ((mulP_len _ _).2)) fun ac181 wo178 En182 Hv183 => ?_
  refine d_k [2,3,4,6,7,8,38] [(9, g_b (show (onN ((mulP (nv k) (mulP (nv l) Gp)).1) ((mulP (nv k) (mulP (nv l) Gp)).2.1) ((mulP (nv k) (mulP (nv l) Gp)).2.2)) = true from (on_mul2 _ _)))] 11 En182 fun ac184 En185 => ?_
  refine f_o ?_
  refine m_a 4 0 9 (([.bool ((mulP (nv k) (mulP (nv l) Gp)).1)] : List Value) ++ ((u64s ((mulP (nv k) (mulP (nv l) Gp)).2.1)) ++ (u64s (nd (subM 2 0 (nv ((mulP (nv k) (mulP (nv l) Gp)).2.2))))))) En185 Hv183 rfl (load_whole (len_app rfl (len_app (u64s_lenh (mulP_len _ _).1) (u64s_lenh (nds_len _ _))))) (len_app rfl (len_app (u64s_lenh (mulP_len _ _).1) (u64s_lenh (nds_len _ _)))) fun ac186 En187 => ?_
  refine f_o ?_
  refine c_p En187 Hv183 (on_go _ ((mulP (nv k) (mulP (nv l) Gp)).1) ((mulP (nv k) (mulP (nv l) Gp)).2.1) (nd (subM 2 0 (nv ((mulP (nv k) (mulP (nv l) Gp)).2.2)))) ((mulP_len _ _).1) (nds_len _ _)) fun ac192 wo189 En193 Hv194 => ?_
  refine d_k [2,3,4,6,7,8,42] [(13, g_b (show (onN ((mulP (nv k) (mulP (nv l) Gp)).1) ((mulP (nv k) (mulP (nv l) Gp)).2.1) (nd (subM 2 0 (nv ((mulP (nv k) (mulP (nv l) Gp)).2.2))))) = true from (lawNeg _ _ (Bool.eq_false_iff.2 hc147)).1))] 15 En193 fun ac195 En196 => ?_
  refine f_o ?_
  refine m_a 2 0 9 (([.bool ((mulP (nv k) (mulP (nv l) Gp)).1)] : List Value) ++ ((u64s ((mulP (nv k) (mulP (nv l) Gp)).2.1)) ++ (u64s ((mulP (nv k) (mulP (nv l) Gp)).2.2)))) En196 Hv194 rfl (load_whole (len_app rfl (len_app (u64s_lenh (mulP_len _ _).1) (u64s_lenh (mulP_len _ _).2)))) (len_app rfl (len_app (u64s_lenh (mulP_len _ _).1) (u64s_lenh (mulP_len _ _).2))) fun ac197 En198 => ?_
  refine f_o ?_
  refine m_a 4 0 9 (([.bool ((mulP (nv k) (mulP (nv l) Gp)).1)] : List Value) ++ ((u64s ((mulP (nv k) (mulP (nv l) Gp)).2.1)) ++ (u64s (nd (subM 2 0 (nv ((mulP (nv k) (mulP (nv l) Gp)).2.2))))))) En198 Hv194 rfl (load_whole (len_app rfl (len_app (u64s_lenh (mulP_len _ _).1) (u64s_lenh (nds_len _ _))))) (len_app rfl (len_app (u64s_lenh (mulP_len _ _).1) (u64s_lenh (nds_len _ _)))) fun ac199 En200 => ?_
  refine f_o ?_
  refine c_p En200 Hv194 (padd_go _ ((mulP (nv k) (mulP (nv l) Gp)).1) ((mulP (nv k) (mulP (nv l) Gp)).2.1) ((mulP (nv k) (mulP (nv l) Gp)).2.2) ((mulP_len _ _).1) ((mulP_len _ _).2) ((mulP (nv k) (mulP (nv l) Gp)).1) ((mulP (nv k) (mulP (nv l) Gp)).2.1) (nd (subM 2 0 (nv ((mulP (nv k) (mulP (nv l) Gp)).2.2)))) ((mulP_len _ _).1) (nds_len _ _)) fun ac205 wo202 En206 Hv207 => ?_
  refine f_o ?_
  refine q_v (x := Instr.build 26 #[(0, .bool true)]) (v := .agg (List.toArray (([.bool true] : List Value) ++ ((u64s (List.replicate 4 0)) ++ (u64s (List.replicate 4 0)))))) En206 (Go.Dbr.run_built [(0, 1), (1, 4), (5, 4)] [⟨1, [.bool false], some (0, .bool true, [.bool true])⟩, ⟨4, u64s (List.replicate 4 0), none⟩, ⟨4, u64s (List.replicate 4 0), none⟩] (fb_y rfl rfl (fb_n (u64s_lenh (List.length_replicate)) (fb_n (u64s_lenh (List.length_replicate)) trivial))) _) fun ac208 En209 => ?_
  refine f_o ?_
  refine q_v (x := eqOp .eql 26 (.tmp 45) (.tmp 46) (.agg (List.toArray (([.bool ((addP (mulP (nv k) (mulP (nv l) Gp)) ((mulP (nv k) (mulP (nv l) Gp)).1, (mulP (nv k) (mulP (nv l) Gp)).2.1, nd (subM 2 0 (nv ((mulP (nv k) (mulP (nv l) Gp)).2.2))))).1)] : List Value) ++ ((u64s ((addP (mulP (nv k) (mulP (nv l) Gp)) ((mulP (nv k) (mulP (nv l) Gp)).1, (mulP (nv k) (mulP (nv l) Gp)).2.1, nd (subM 2 0 (nv ((mulP (nv k) (mulP (nv l) Gp)).2.2))))).2.1)) ++ (u64s ((addP (mulP (nv k) (mulP (nv l) Gp)) ((mulP (nv k) (mulP (nv l) Gp)).1, (mulP (nv k) (mulP (nv l) Gp)).2.1, nd (subM 2 0 (nv ((mulP (nv k) (mulP (nv l) Gp)).2.2))))).2.2)))))) (.agg (List.toArray (([.bool true] : List Value) ++ ((u64s (List.replicate 4 0)) ++ (u64s (List.replicate 4 0))))))) (v := .bool true) En209 (Go.Dbr.run_is (fun w => Go.Dbr.pnt_eqop (a := (.tmp 45)) (b := (.tmp 46)) isP (addP_len _ _).1 (addP_len _ _).2 (List.length_replicate) (List.length_replicate) w) (pzeq (b := zeroP) (lawNeg _ _ (Bool.eq_false_iff.2 hc147)).2) _) fun ac210 En211 => ?_
  refine d_e [2,3,4,6,7,8] [] En211 fun ac212 En213 => ?_
  refine then_normal ?_
  refine wp_ret ?_
  refine d_ret1 (t := 4) (v := .bool true) En213 (by kernel_rfl) (by kernel_rfl) ?_
  exact ⟨by first | rfl | kernel_rfl, Hv207.pk []⟩
 ·
  replace hc147 : (mulP (nv k) (mulP (nv l) Gp)).1 = true := by simpa using hc147
  refine wp_skip ?_
  refine then_normal ?_
  refine wp_seq ?_
  refine region_from ?_
  refine d_k [2,3,4,6,7,8,29] [] 2 En146 fun ac214 En215 => ?_
  refine f_o ?_
  refine m_a 2 0 9 (([.bool ((mulP (nv k) (mulP (nv l) Gp)).1)] : List Value) ++ ((u64s ((mulP (nv k) (mulP (nv l) Gp)).2.1)) ++ (u64s ((mulP (nv k) (mulP (nv l) Gp)).2.2)))) En215 Hv140 rfl (load_whole (len_app rfl (len_app (u64s_lenh (mulP_len _ _).1) (u64s_lenh (mulP_len _ _).2)))) (len_app rfl (len_app (u64s_lenh (mulP_len _ _).1) (u64s_lenh (mulP_len _ _).2))) fun ac216 En217 => ?_
  refine f_o ?_
  refine m_a 3 0 9 (([.bool ((mulP (nv l) (mulP (nv k) Gp)).1)] : List Value) ++ ((u64s ((mulP (nv l) (mulP (nv k) Gp)).2.1)) ++ (u64s ((mulP (nv l) (mulP (nv k) Gp)).2.2)))) En217 Hv140 rfl (load_whole (len_app rfl (len_app (u64s_lenh (mulP_len _ _).1) (u64s_lenh (mulP_len _ _).2)))) (len_app rfl (len_app (u64s_lenh (mulP_len _ _).1) (u64s_lenh (mulP_len _ _).2))) fun ac218 En219 => ?_
  refine f_o ?_
  refine q_v (x := eqOp .eql 26 (.tmp 30) (.tmp 31) (.agg (List.toArray (([.bool ((mulP (nv k) (mulP (nv l) Gp)).1)] : List Value) ++ ((u64s ((mulP (nv k) (mulP (nv l) Gp)).2.1)) ++ (u64s ((mulP (nv k) (mulP (nv l) Gp)).2.2)))))) (.agg (List.toArray (([.bool ((mulP (nv l) (mulP (nv k) Gp)).1)] : List Value) ++ ((u64s ((mulP (nv l) (mulP (nv k) Gp)).2.1)) ++ (u64s ((mulP (nv l) (mulP (nv k) Gp)).2.2))))))) (v := .bool true) En219 (Go.Dbr.run_is (fun w => Go.Dbr.pnt_eqop (a := (.tmp 30)) (b := (.tmp 31)) isP (mulP_len _ _).1 (mulP_len _ _).2 (mulP_len _ _).1 (mulP_len _ _).2 w) (pzeq (lawTurn _ _)) _) fun ac220 En221 => ?_
  refine d_k [2,3,4,6,7,8,34] [] 7 En221 fun ac222 En223 => ?_
  refine f_o ?_
  refine m_a 2 0 9 (([.bool ((mulP (nv k) (mulP (nv l) Gp)).1)] : List Value) ++ ((u64s ((mulP (nv k) (mulP (nv l) Gp)).2.1)) ++ (u64s ((mulP (nv k) (mulP (nv l) Gp)).2.2)))) En223 Hv140 rfl (load_whole (len_app rfl (len_app (u64s_lenh (mulP_len _ _).1) (u64s_lenh (mulP_len _ _).2)))) (len_app rfl (len_app (u64s_lenh (mulP_len _ _).1) (u64s_lenh (mulP_len _ _).2))) fun ac224 En225 => ?_
  refine f_o ?_
  refine c_p En225 Hv140 (on_go _ ((mulP (nv k) (mulP (nv l) Gp)).1) ((mulP (nv k) (mulP (nv l) Gp)).2.1) ((mulP (nv k) (mulP (nv l) Gp)).2.2) ((mulP_len _ _).1) ((mulP_len _ _).2)) fun ac230 wo227 En231 Hv232 => ?_
  refine d_k [2,3,4,6,7,8,38] [(9, g_b (show (onN ((mulP (nv k) (mulP (nv l) Gp)).1) ((mulP (nv k) (mulP (nv l) Gp)).2.1) ((mulP (nv k) (mulP (nv l) Gp)).2.2)) = true from (on_mul2 _ _)))] 11 En231 fun ac233 En234 => ?_
  refine f_o ?_
  refine m_a 4 0 9 (([.bool ((mulP (nv k) (mulP (nv l) Gp)).1)] : List Value) ++ ((u64s ((mulP (nv k) (mulP (nv l) Gp)).2.1)) ++ (u64s ((mulP (nv k) (mulP (nv l) Gp)).2.2)))) En234 Hv232 rfl (load_whole (len_app rfl (len_app (u64s_lenh (mulP_len _ _).1) (u64s_lenh (mulP_len _ _).2)))) (len_app rfl (len_app (u64s_lenh (mulP_len _ _).1) (u64s_lenh (mulP_len _ _).2))) fun ac235 En236 => ?_
  refine f_o ?_
  refine c_p En236 Hv232 (on_go _ ((mulP (nv k) (mulP (nv l) Gp)).1) ((mulP (nv k) (mulP (nv l) Gp)).2.1) ((mulP (nv k) (mulP (nv l) Gp)).2.2) ((mulP_len _ _).1) ((mulP_len _ _).2)) fun ac241 wo238 En242 Hv243 => ?_
  refine d_k [2,3,4,6,7,8,42] [(13, g_b (show (onN ((mulP (nv k) (mulP (nv l) Gp)).1) ((mulP (nv k) (mulP (nv l) Gp)).2.1) ((mulP (nv k) (mulP (nv l) Gp)).2.2)) = true from (on_mul2 _ _)))] 15 En242 fun ac244 En245 => ?_
  refine f_o ?_
  refine m_a 2 0 9 (([.bool ((mulP (nv k) (mulP (nv l) Gp)).1)] : List Value) ++ ((u64s ((mulP (nv k) (mulP (nv l) Gp)).2.1)) ++ (u64s ((mulP (nv k) (mulP (nv l) Gp)).2.2)))) En245 Hv243 rfl (load_whole (len_app rfl (len_app (u64s_lenh (mulP_len _ _).1) (u64s_lenh (mulP_len _ _).2)))) (len_app rfl (len_app (u64s_lenh (mulP_len _ _).1) (u64s_lenh (mulP_len _ _).2))) fun ac246 En247 => ?_
  refine f_o ?_
  refine m_a 4 0 9 (([.bool ((mulP (nv k) (mulP (nv l) Gp)).1)] : List Value) ++ ((u64s ((mulP (nv k) (mulP (nv l) Gp)).2.1)) ++ (u64s ((mulP (nv k) (mulP (nv l) Gp)).2.2)))) En247 Hv243 rfl (load_whole (len_app rfl (len_app (u64s_lenh (mulP_len _ _).1) (u64s_lenh (mulP_len _ _).2)))) (len_app rfl (len_app (u64s_lenh (mulP_len _ _).1) (u64s_lenh (mulP_len _ _).2))) fun ac248 En249 => ?_
  refine f_o ?_
  refine c_p En249 Hv243 (padd_go _ ((mulP (nv k) (mulP (nv l) Gp)).1) ((mulP (nv k) (mulP (nv l) Gp)).2.1) ((mulP (nv k) (mulP (nv l) Gp)).2.2) ((mulP_len _ _).1) ((mulP_len _ _).2) ((mulP (nv k) (mulP (nv l) Gp)).1) ((mulP (nv k) (mulP (nv l) Gp)).2.1) ((mulP (nv k) (mulP (nv l) Gp)).2.2) ((mulP_len _ _).1) ((mulP_len _ _).2)) fun ac254 wo251 En255 Hv256 => ?_
  refine f_o ?_
  refine q_v (x := Instr.build 26 #[(0, .bool true)]) (v := .agg (List.toArray (([.bool true] : List Value) ++ ((u64s (List.replicate 4 0)) ++ (u64s (List.replicate 4 0)))))) En255 (Go.Dbr.run_built [(0, 1), (1, 4), (5, 4)] [⟨1, [.bool false], some (0, .bool true, [.bool true])⟩, ⟨4, u64s (List.replicate 4 0), none⟩, ⟨4, u64s (List.replicate 4 0), none⟩] (fb_y rfl rfl (fb_n (u64s_lenh (List.length_replicate)) (fb_n (u64s_lenh (List.length_replicate)) trivial))) _) fun ac257 En258 => ?_
  refine f_o ?_
  refine q_v (x := eqOp .eql 26 (.tmp 45) (.tmp 46) (.agg (List.toArray (([.bool ((addP (mulP (nv k) (mulP (nv l) Gp)) (mulP (nv k) (mulP (nv l) Gp))).1)] : List Value) ++ ((u64s ((addP (mulP (nv k) (mulP (nv l) Gp)) (mulP (nv k) (mulP (nv l) Gp))).2.1)) ++ (u64s ((addP (mulP (nv k) (mulP (nv l) Gp)) (mulP (nv k) (mulP (nv l) Gp))).2.2)))))) (.agg (List.toArray (([.bool true] : List Value) ++ ((u64s (List.replicate 4 0)) ++ (u64s (List.replicate 4 0))))))) (v := .bool true) En258 (Go.Dbr.run_is (fun w => Go.Dbr.pnt_eqop (a := (.tmp 45)) (b := (.tmp 46)) isP (addP_len _ _).1 (addP_len _ _).2 (List.length_replicate) (List.length_replicate) w) (pzeq (b := zeroP) (lawZero _ _ (by simpa using hc147))) _) fun ac259 En260 => ?_
  refine d_e [2,3,4,6,7,8] [] En260 fun ac261 En262 => ?_
  refine then_normal ?_
  refine wp_ret ?_
  refine d_ret1 (t := 4) (v := .bool true) En262 (by kernel_rfl) (by kernel_rfl) ?_
  exact ⟨by first | rfl | kernel_rfl, Hv256.pk []⟩

end Go.Proofs.Ytpfhmbbiadpbeaa
