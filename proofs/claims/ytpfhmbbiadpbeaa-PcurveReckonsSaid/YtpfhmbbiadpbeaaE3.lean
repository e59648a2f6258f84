/- Layer 13: secrets, points of numbers, the head. -/
import Derived.Test.YtpfhmbbiadpbeaaE2
import Derived.Test.YtpfhmbbiadpbeaaArr
namespace Go.Proofs.Ytpfhmbbiadpbeaa
open Go.Dbr
set_option maxRecDepth 100000
set_option maxHeartbeats 2000000
set_option linter.unusedVariables false
set_option linter.unusedSimpArgs false

theorem mulG_2 : mulP 2 Gp = (false, nd 56515219790691171413109057904011688695424810155802929973526481321309856242040, nd 3377031843712258259223711451491452598088675519751548567112458094635497583569) := by
  rw [mulG_out]
  have h := repN_mul 2 2 (GX, GY, 1) gB (by decide) (by
    rw [gB_is]
    show Go.Wei.RepH (fP GX, fP GY, fP 1) _
    rw [show fP 1 = 1 from Go.Wei.fn_one]
    generalize fP GX = a
    generalize fP GY = b
    exact ⟨one_ne, by grind -lia, by grind -lia⟩)
  cases hP : (Go.Wei.Cv.mul 2 gB).1 with
  | O =>
    rw [hP] at h
    have := congrArg Fin.val h.1
    exact absurd this (by decide +kernel)
  | A x y =>
    rw [hP] at h
    obtain ⟨hz, hx, hy⟩ := h
    have e1 : x = fP 56515219790691171413109057904011688695424810155802929973526481321309856242040 := by
      refine Go.Wei.Fld.eq (F := Go.Wei.fldP) hz ?_
      have : fP (mulG 2 2 (GX, GY, 1)).1 = fP 56515219790691171413109057904011688695424810155802929973526481321309856242040 * fP (mulG 2 2 (GX, GY, 1)).2.2 := Fin.ext (by decide +kernel)
      rw [hx] at this
      clear hx hy hP hz
      generalize fP (mulG 2 2 (GX, GY, 1)).2.2 = k at *
      grind -lia
    have e2 : y = fP 3377031843712258259223711451491452598088675519751548567112458094635497583569 := by
      refine Go.Wei.Fld.eq (F := Go.Wei.fldP) hz ?_
      have : fP (mulG 2 2 (GX, GY, 1)).2.1 = fP 3377031843712258259223711451491452598088675519751548567112458094635497583569 * fP (mulG 2 2 (GX, GY, 1)).2.2 := Fin.ext (by decide +kernel)
      rw [hy] at this
      clear hx hy hP hz e1
      generalize fP (mulG 2 2 (GX, GY, 1)).2.2 = k at *
      grind -lia
    rw [e1, e2]
    show (false, nd (56515219790691171413109057904011688695424810155802929973526481321309856242040 % Go.Wei.PP), nd (3377031843712258259223711451491452598088675519751548567112458094635497583569 % Go.Wei.PP)) = _
    rw [Nat.mod_eq_of_lt (by decide), Nat.mod_eq_of_lt (by decide)]
def headL : List UInt8 := [4, 124, 242, 123, 24, 141, 3, 79, 126, 138, 82, 56, 3, 4, 181, 26, 195, 192, 137, 105, 226, 119, 242, 27, 53, 166, 11, 72, 252, 71, 102, 153, 120, 7, 119, 85, 16, 219, 142, 208, 64, 41, 61, 154, 198, 159, 116, 48, 219, 186, 125, 173, 230, 60, 233, 130, 41, 158, 4, 183, 157, 34, 120, 115, 209]
theorem head_enc : encL (mulP (nv [2, 0, 0, 0]) Gp).1 (mulP (nv [2, 0, 0, 0]) Gp).2.1 (mulP (nv [2, 0, 0, 0]) Gp).2.2 = headL := by
  rw [show nv [2, 0, 0, 0] = 2 from rfl, mulG_2]
  decide +kernel

theorem point_go (w : World) (k : List UInt64) (hk : List.length k = 4) : Calls Try.prog 18 #[.agg (List.toArray (u64s k))] w fun e w' => e = .returned (.agg (List.toArray (([.bool ((mulP (nv k) Gp).1)] : List Value) ++ ((u64s ((mulP (nv k) Gp).2.1)) ++ (u64s ((mulP (nv k) Gp).2.2)))))) ∧ Ev w [] w' [] := by
 refine d_0 [(0, .agg (List.toArray (u64s k)))] 6 Go.Proofs.Try.func18 Go.Proofs.Try.ntmps18 (Heap.nil _) fun act0 En0 Hv0 => ?_
 refine wp_seq ?_
 refine region_from ?_
 refine f_o ?_
 refine m_m 24 (u64s k) En0 Hv0 fun ac2 wo3 bk1 En4 Hv5 => ?_
 refine f_o ?_
 refine m_z 26 (([.bool false] : List Value) ++ ((u64s (List.replicate 4 0)) ++ (u64s (List.replicate 4 0)))) En4 Hv5 fun ac7 wo8 bk6 En9 Hv10 => ?_
 refine f_e ?_
 refine then_normal ?_
 refine wp_seq ?_
 refine r_c (fun ac wo => Env ac 6 [(2, pt bk6)] ∧ Ev w [] wo [.box bk6 (([.bool ((mulP (nv k) Gp).1)] : List Value) ++ ((u64s ((mulP (nv k) Gp).2.1)) ++ (u64s ((mulP (nv k) Gp).2.2)))) 26]) ?_ ?_
 ·
  refine s_g0 [(1, pt bk1), (2, pt bk6)] [0,1,2] [(3, .agg (List.toArray (u64s k))), (4, .agg (List.toArray (([.bool false] : List Value) ++ ((u64s (nd GX)) ++ (u64s (nd GY)))))), (5, .agg (List.toArray (([.bool ((mulP (nv k) Gp).1)] : List Value) ++ ((u64s ((mulP (nv k) Gp).2.1)) ++ (u64s ((mulP (nv k) Gp).2.2))))))] 1 [(2, pt bk6), (5, .agg (List.toArray (([.bool ((mulP (nv k) Gp).1)] : List Value) ++ ((u64s ((mulP (nv k) Gp).2.1)) ++ (u64s ((mulP (nv k) Gp).2.2))))))] (En9.sb) (Hv10.trans (Ev.drew Hv10.heap)) ?_ fun ac34 wo35 En36 Hv37 => ?_
  ·
   refine s_a 0 0 4 (u64s k) rfl (load_whole (u64s_lenh hk)) (u64s_lenh hk) ?_
   refine s_f (fun _ => dbase_go _) ?_
   refine s_f (fun _ => dpmult_go _ k hk false (nd GX) (nd GY) (nds_len _ _) (nds_len _ _)) ?_
   exact s_n
  refine q_u 3 ?_
  refine m_g 1 0 9 (([.bool ((mulP (nv k) Gp).1)] : List Value) ++ ((u64s ((mulP (nv k) Gp).2.1)) ++ (u64s ((mulP (nv k) Gp).2.2)))) (([.bool ((mulP (nv k) Gp).1)] : List Value) ++ ((u64s ((mulP (nv k) Gp).2.1)) ++ (u64s ((mulP (nv k) Gp).2.2)))) [.box bk1 (u64s k) 24, .box bk6 (([.bool ((mulP (nv k) Gp).1)] : List Value) ++ ((u64s ((mulP (nv k) Gp).2.1)) ++ (u64s ((mulP (nv k) Gp).2.2)))) 26] En36 Hv37 rfl (len_app rfl (len_app (u64s_lenh (mulP_len _ _).1) (u64s_lenh (mulP_len _ _).2))) (by rw [(len_app rfl (len_app (u64s_lenh (List.length_replicate)) (u64s_lenh (List.length_replicate))))]; decide) (one_app (one_all (by kernel_rfl)) (one_app (u64s_one _) (u64s_one _))) (store_whole (len_app rfl (len_app (u64s_lenh (List.length_replicate)) (u64s_lenh (List.length_replicate))))) rfl fun ac42 wo43 En44 Hv45 => ?_
  exact a_e ⟨En44.sb, Hv45.pk [1]⟩
 rintro ac46 wo47 ⟨En48, Hv49⟩
 refine then_normal ?_
 refine wp_ret ?_
 refine d_cell1 (v := .agg (List.toArray (([.bool ((mulP (nv k) Gp).1)] : List Value) ++ ((u64s ((mulP (nv k) Gp).2.1)) ++ (u64s ((mulP (nv k) Gp).2.2)))))) (t := 2) (T := 26) (ad := ⟨bk6, 0, none⟩) En48 (by kernel_rfl) (by kernel_rfl) (Ev.cellAgg (t := 26) (k := 0) (off := 0) (m := 9) (xs := ([.bool ((mulP (nv k) Gp).1)] : List Value) ++ ((u64s ((mulP (nv k) Gp).2.1)) ++ (u64s ((mulP (nv k) Gp).2.2)))) Hv49 rfl (load_whole (len_app rfl (len_app (u64s_lenh (mulP_len _ _).1) (u64s_lenh (mulP_len _ _).2)))) (len_app rfl (len_app (u64s_lenh (mulP_len _ _).1) (u64s_lenh (mulP_len _ _).2))) (by kernel_rfl) (by kernel_rfl)) ?_
 exact ⟨by first | rfl | kernel_rfl, Hv49.pk []⟩

theorem henc_go (w : World) : Calls Try.prog 26 #[.agg (List.toArray (([.bool ((mulP (nv [2, 0, 0, 0]) Gp).1)] : List Value) ++ ((u64s ((mulP (nv [2, 0, 0, 0]) Gp).2.1)) ++ (u64s ((mulP (nv [2, 0, 0, 0]) Gp).2.2)))))] w fun e w' => ∃ ao cap, e = .returned (.slice ao 65 cap) ∧ Ev w [] w' [.vec ao cap 1 (bys headL) 5] := by
  have h := enc_go w (mulP (nv [2, 0, 0, 0]) Gp).1 (mulP (nv [2, 0, 0, 0]) Gp).2.1 (mulP (nv [2, 0, 0, 0]) Gp).2.2 (mulP_len _ _).1 (mulP_len _ _).2
  rw [head_enc] at h
  exact h

theorem head_ok (w : World) : Calls Try.prog 9 #[] w fun e w' => e = .returned (.bool true) ∧ Ev w [] w' [] := by
 refine d_0 [] 37 Go.Proofs.Try.func9 Go.Proofs.Try.ntmps9 (Heap.nil _) fun act0 En0 Hv0 => ?_
 refine d_s [0] [] En0 fun ac1 En2 => ?_
 refine wp_seq ?_
 refine region_from ?_
 refine d_k [0,2] [] 1 En2 fun ac3 En4 => ?_
 refine f_o ?_
 refine c_p En4 Hv0 (pbase_go _) fun ac9 wo6 En10 Hv11 => ?_
 refine f_o ?_
 refine c_p En10 Hv11 (pmult_go _ ([2, 0, 0, 0] : List UInt64) (show List.length ([2, 0, 0, 0] : List UInt64) = 4 from rfl) false (nd GX) (nd GY) (nds_len _ _) (nds_len _ _)) fun ac16 wo13 En17 Hv18 => ?_
 refine f_o ?_
 refine c_0 En17 Hv18 (henc_go _) ?_
 rintro _ wo22 ⟨ao19, cp20, rfl, he23⟩
 refine ⟨_, _, _, rfl, he23, rfl, fun ac25 En26 Hv27 => ?_⟩
 refine d_e [0,1] [] En26 fun ac28 En29 => ?_
 have hl65 : List.length headL = 65 := rfl
 refine then_normal ?_
 have hb32 : 0 < 65 := (by omega)
 obtain ⟨adr30, had31⟩ := some_of (fun e => by have h := (bys_vnz Hv27.heap (k := 0) rfl) e; first | omega | (rw [List.length_take] at h; omega) | (simp at h; omega)) hb32
 refine wp_seq ?_
 refine region_from ?_
 refine d_k [0,1,9,10] [] 5 En29 fun ac33 En34 => ?_
 refine f_o ?_
 refine q_v (x := Instr.indexAt 46 (.slice ao19 65 cp20) (.int .i64 0)) (v := .pointer (some (Addr.add adr30 0))) En34 (Go.Dbr.run_indexsl (e := 5) (sz := 1) (j := 0) (jo := 0) had31 (by kernel_rfl) (by kernel_rfl) (by omega) hb32 (Nat.mul_one _) _) fun ac35 En36 => ?_
 refine f_o ?_
 have hb37 : 0 < List.length headL := by omega
 refine op_loadel (d := some 12) (t := 5) (ad := adr30) (ao := ao19) (xs := bys headL) (j := 0) (v := bv (List.getD headL 0 0)) En36 (by kernel_rfl) (Hv27.heap.reads (k := 0) rfl) had31 (bys_getD hb37) (by kernel_rfl) ?_
 intro ac38 En39
 have hb42 : 1 < 65 := (by omega)
 obtain ⟨adr40, had41⟩ := some_of (fun e => by have h := (bys_vnz Hv27.heap (k := 0) rfl) e; first | omega | (rw [List.length_take] at h; omega) | (simp at h; omega)) hb42
 refine d_k [0,1,15,16] [(7, g_b (show (((UInt8.toNat (List.getD headL 0 0) : Nat) : Int) == (4 : Int)) = true from (by decide)))] 11 En39 fun ac43 En44 => ?_
 refine f_o ?_
 refine q_v (x := Instr.indexAt 46 (.slice ao19 65 cp20) (.int .i64 1)) (v := .pointer (some (Addr.add adr40 1))) En44 (Go.Dbr.run_indexsl (e := 5) (sz := 1) (j := 1) (jo := 1) had41 (by kernel_rfl) (by kernel_rfl) (by omega) hb42 (Nat.mul_one _) _) fun ac45 En46 => ?_
 refine f_o ?_
 have hb47 : 1 < List.length headL := by omega
 refine op_loadel (d := some 18) (t := 5) (ad := adr40) (ao := ao19) (xs := bys headL) (j := 1) (v := bv (List.getD headL 1 0)) En46 (by kernel_rfl) (Hv27.heap.reads (k := 0) rfl) had41 (bys_getD hb47) (by kernel_rfl) ?_
 intro ac48 En49
 have hb52 : 2 < 65 := (by omega)
 obtain ⟨adr50, had51⟩ := some_of (fun e => by have h := (bys_vnz Hv27.heap (k := 0) rfl) e; first | omega | (rw [List.length_take] at h; omega) | (simp at h; omega)) hb52
 refine d_k [0,1,21,22] [(13, g_b (show (((UInt8.toNat (List.getD headL 1 0) : Nat) : Int) == (124 : Int)) = true from (by decide)))] 17 En49 fun ac53 En54 => ?_
 refine f_o ?_
 refine q_v (x := Instr.indexAt 46 (.slice ao19 65 cp20) (.int .i64 2)) (v := .pointer (some (Addr.add adr50 2))) En54 (Go.Dbr.run_indexsl (e := 5) (sz := 1) (j := 2) (jo := 2) had51 (by kernel_rfl) (by kernel_rfl) (by omega) hb52 (Nat.mul_one _) _) fun ac55 En56 => ?_
 refine f_o ?_
 have hb57 : 2 < List.length headL := by omega
 refine op_loadel (d := some 24) (t := 5) (ad := adr50) (ao := ao19) (xs := bys headL) (j := 2) (v := bv (List.getD headL 2 0)) En56 (by kernel_rfl) (Hv27.heap.reads (k := 0) rfl) had51 (bys_getD hb57) (by kernel_rfl) ?_
 intro ac58 En59
 have hb62 : 32 < 65 := (by omega)
 obtain ⟨adr60, had61⟩ := some_of (fun e => by have h := (bys_vnz Hv27.heap (k := 0) rfl) e; first | omega | (rw [List.length_take] at h; omega) | (simp at h; omega)) hb62
 refine d_k [0,27,28] [(19, g_b (show (((UInt8.toNat (List.getD headL 2 0) : Nat) : Int) == (242 : Int)) = true from (by decide)))] 23 En59 fun ac63 En64 => ?_
 refine f_o ?_
 refine q_v (x := Instr.indexAt 46 (.slice ao19 65 cp20) (.int .i64 32)) (v := .pointer (some (Addr.add adr60 32))) En64 (Go.Dbr.run_indexsl (e := 5) (sz := 1) (j := 32) (jo := 32) had61 (by kernel_rfl) (by kernel_rfl) (by omega) hb62 (Nat.mul_one _) _) fun ac65 En66 => ?_
 refine f_o ?_
 have hb67 : 32 < List.length headL := by omega
 refine op_loadel (d := some 30) (t := 5) (ad := adr60) (ao := ao19) (xs := bys headL) (j := 32) (v := bv (List.getD headL 32 0)) En66 (by kernel_rfl) (Hv27.heap.reads (k := 0) rfl) had61 (bys_getD hb67) (by kernel_rfl) ?_
 intro ac68 En69
 refine d_k [0,33] [(25, g_b (show (((UInt8.toNat (List.getD headL 32 0) : Nat) : Int) == (120 : Int)) = true from (by decide)))] 28 En69 fun ac70 En71 => ?_
 refine f_o ?_
 refine c_p En71 Hv27 (pbase_go _) fun ac76 wo73 En77 Hv78 => ?_
 refine f_o ?_
 refine c_p En77 Hv78 (on_go _ false (nd GX) (nd GY) (nds_len _ _) (nds_len _ _)) fun ac83 wo80 En84 Hv85 => ?_
 refine d_e [0] [] En84 fun ac86 En87 => ?_
 refine then_normal ?_
 refine wp_ret ?_
 refine d_ret1 (t := 0) (v := .bool (onN false (nd GX) (nd GY))) En87 (by kernel_rfl) (by kernel_rfl) ?_
 exact ⟨by rw [show onN false (nd GX) (nd GY) = true from on_G], Hv85.pk []⟩

end Go.Proofs.Ytpfhmbbiadpbeaa
