/- Layer 11: keys and secrets; the head; XdhMults, XdhBits. -/
import Derived.Test.YteainioaejnecaaX3
namespace Go.Proofs.Yteainioaejnecaa
open Go.Dbr
set_option maxRecDepth 100000
set_option maxHeartbeats 2000000
set_option linter.unusedVariables false
set_option linter.unusedSimpArgs false

theorem rmult_eq (w : World) (k u : List UInt8) (hk : List.length k = 32) (hu : List.length u = 32) : Calls Try.prog 10 #[.agg (List.toArray (bys k)), .agg (List.toArray (bys u))] w fun e w' => e = .returned (.agg (List.toArray (bys (multL (xP u) (lv (clP k)))))) ∧ Ev w [] w' [] := by
  have h := rmult_go w k u hk hu
  rwa [clD_eq, xD_eq hu] at h
theorem xP_free {u : List UInt8} (hu : u.length = 32) (y : UInt8) : xP (List.set u 31 (List.getD u 31 0 ^^^ (y &&& 128))) = xP u := by rw [xP, xP, clU_free hu]

theorem public_go (w : World) (k : List UInt8) (hk : List.length k = 32) : Calls Try.prog 13 #[.agg (List.toArray (bys k))] w fun e w' => e = .returned (.agg (List.toArray (bys (multL (xP ([9, 0, 0, 0, 0, 0, 0, 0, 0, 0, 0, 0, 0, 0, 0, 0, 0, 0, 0, 0, 0, 0, 0, 0, 0, 0, 0, 0, 0, 0, 0, 0] : List UInt8)) (lv (clP k)))))) ∧ Ev w [] w' [] := by
 refine d_0 [(0, .agg (List.toArray (bys k)))] 6 Go.Proofs.Try.func13 Go.Proofs.Try.ntmps13 (Heap.nil _) fun act0 En0 Hv0 => ?_
 refine wp_seq ?_
 refine region_from ?_
 refine f_o ?_
 refine m_m 22 (bys k) En0 Hv0 fun ac2 wo3 bk1 En4 Hv5 => ?_
 refine f_o ?_
 refine m_z 22 (bys (List.replicate 32 0)) En4 Hv5 fun ac7 wo8 bk6 En9 Hv10 => ?_
 refine f_e ?_
 refine then_normal ?_
 refine wp_seq ?_
 refine region_from ?_
 refine f_o ?_
 refine m_a 0 0 32 (bys k) En9 Hv10 rfl (load_whole (bys_lenh hk)) (bys_lenh hk) fun ac11 En12 => ?_
 refine d_k [2,3,4] [] 2 En12 fun ac13 En14 => ?_
 refine f_o ?_
 refine c_p En14 Hv10 (mult_go _ k ([9, 0, 0, 0, 0, 0, 0, 0, 0, 0, 0, 0, 0, 0, 0, 0, 0, 0, 0, 0, 0, 0, 0, 0, 0, 0, 0, 0, 0, 0, 0, 0] : List UInt8) hk (show List.length ([9, 0, 0, 0, 0, 0, 0, 0, 0, 0, 0, 0, 0, 0, 0, 0, 0, 0, 0, 0, 0, 0, 0, 0, 0, 0, 0, 0, 0, 0, 0, 0] : List UInt8) = 32 from rfl)) fun ac19 wo16 En20 Hv21 => ?_
 refine f_o ?_
 refine m_g 1 0 32 (bys (multL (xP ([9, 0, 0, 0, 0, 0, 0, 0, 0, 0, 0, 0, 0, 0, 0, 0, 0, 0, 0, 0, 0, 0, 0, 0, 0, 0, 0, 0, 0, 0, 0, 0] : List UInt8)) (lv (clP k)))) (bys (multL (xP ([9, 0, 0, 0, 0, 0, 0, 0, 0, 0, 0, 0, 0, 0, 0, 0, 0, 0, 0, 0, 0, 0, 0, 0, 0, 0, 0, 0, 0, 0, 0, 0] : List UInt8)) (lv (clP k)))) [.box bk1 (bys k) 22, .box bk6 (bys (multL (xP ([9, 0, 0, 0, 0, 0, 0, 0, 0, 0, 0, 0, 0, 0, 0, 0, 0, 0, 0, 0, 0, 0, 0, 0, 0, 0, 0, 0, 0, 0, 0, 0] : List UInt8)) (lv (clP k)))) 22] En20 Hv21 rfl (bys_lenh (multL_len _ _)) (by rw [(bys_lenh (List.length_replicate))]; decide) (bys_one _) (store_whole (bys_lenh (List.length_replicate))) rfl fun ac22 wo23 En24 Hv25 => ?_
 refine f_e ?_
 refine then_normal ?_
 refine wp_ret ?_
 refine d_cell1 (v := .agg (List.toArray (bys (multL (xP ([9, 0, 0, 0, 0, 0, 0, 0, 0, 0, 0, 0, 0, 0, 0, 0, 0, 0, 0, 0, 0, 0, 0, 0, 0, 0, 0, 0, 0, 0, 0, 0] : List UInt8)) (lv (clP k)))))) (t := 2) (T := 22) (ad := ⟨bk6, 0, none⟩) En24 (by kernel_rfl) (by kernel_rfl) (Ev.cellAgg (t := 22) (k := 1) (off := 0) (m := 32) (xs := bys (multL (xP ([9, 0, 0, 0, 0, 0, 0, 0, 0, 0, 0, 0, 0, 0, 0, 0, 0, 0, 0, 0, 0, 0, 0, 0, 0, 0, 0, 0, 0, 0, 0, 0] : List UInt8)) (lv (clP k)))) Hv25 rfl (load_whole (bys_lenh (multL_len _ _))) (bys_lenh (multL_len _ _)) (by kernel_rfl) (by kernel_rfl)) ?_
 exact ⟨rfl, Hv25.pk []⟩

theorem rpublic_go (w : World) (k : List UInt8) (hk : List.length k = 32) : Calls Try.prog 14 #[.agg (List.toArray (bys k))] w fun e w' => e = .returned (.agg (List.toArray (bys (multL (xP ([9, 0, 0, 0, 0, 0, 0, 0, 0, 0, 0, 0, 0, 0, 0, 0, 0, 0, 0, 0, 0, 0, 0, 0, 0, 0, 0, 0, 0, 0, 0, 0] : List UInt8)) (lv (clP k)))))) ∧ Ev w [] w' [] := by
 refine d_0 [(0, .agg (List.toArray (bys k)))] 6 Go.Proofs.Try.func14 Go.Proofs.Try.ntmps14 (Heap.nil _) fun act0 En0 Hv0 => ?_
 refine wp_seq ?_
 refine region_from ?_
 refine f_o ?_
 refine m_m 22 (bys k) En0 Hv0 fun ac2 wo3 bk1 En4 Hv5 => ?_
 refine f_o ?_
 refine m_z 22 (bys (List.replicate 32 0)) En4 Hv5 fun ac7 wo8 bk6 En9 Hv10 => ?_
 refine f_e ?_
 refine then_normal ?_
 refine wp_seq ?_
 refine region_from ?_
 refine f_o ?_
 refine m_a 0 0 32 (bys k) En9 Hv10 rfl (load_whole (bys_lenh hk)) (bys_lenh hk) fun ac11 En12 => ?_
 refine d_k [2,3,4] [] 2 En12 fun ac13 En14 => ?_
 refine f_o ?_
 refine c_p En14 Hv10 (rmult_eq _ k ([9, 0, 0, 0, 0, 0, 0, 0, 0, 0, 0, 0, 0, 0, 0, 0, 0, 0, 0, 0, 0, 0, 0, 0, 0, 0, 0, 0, 0, 0, 0, 0] : List UInt8) hk (show List.length ([9, 0, 0, 0, 0, 0, 0, 0, 0, 0, 0, 0, 0, 0, 0, 0, 0, 0, 0, 0, 0, 0, 0, 0, 0, 0, 0, 0, 0, 0, 0, 0] : List UInt8) = 32 from rfl)) fun ac19 wo16 En20 Hv21 => ?_
 refine f_o ?_
 refine m_g 1 0 32 (bys (multL (xP ([9, 0, 0, 0, 0, 0, 0, 0, 0, 0, 0, 0, 0, 0, 0, 0, 0, 0, 0, 0, 0, 0, 0, 0, 0, 0, 0, 0, 0, 0, 0, 0] : List UInt8)) (lv (clP k)))) (bys (multL (xP ([9, 0, 0, 0, 0, 0, 0, 0, 0, 0, 0, 0, 0, 0, 0, 0, 0, 0, 0, 0, 0, 0, 0, 0, 0, 0, 0, 0, 0, 0, 0, 0] : List UInt8)) (lv (clP k)))) [.box bk1 (bys k) 22, .box bk6 (bys (multL (xP ([9, 0, 0, 0, 0, 0, 0, 0, 0, 0, 0, 0, 0, 0, 0, 0, 0, 0, 0, 0, 0, 0, 0, 0, 0, 0, 0, 0, 0, 0, 0, 0] : List UInt8)) (lv (clP k)))) 22] En20 Hv21 rfl (bys_lenh (multL_len _ _)) (by rw [(bys_lenh (List.length_replicate))]; decide) (bys_one _) (store_whole (bys_lenh (List.length_replicate))) rfl fun ac22 wo23 En24 Hv25 => ?_
 refine f_e ?_
 refine then_normal ?_
 refine wp_ret ?_
 refine d_cell1 (v := .agg (List.toArray (bys (multL (xP ([9, 0, 0, 0, 0, 0, 0, 0, 0, 0, 0, 0, 0, 0, 0, 0, 0, 0, 0, 0, 0, 0, 0, 0, 0, 0, 0, 0, 0, 0, 0, 0] : List UInt8)) (lv (clP k)))))) (t := 2) (T := 22) (ad := ⟨bk6, 0, none⟩) En24 (by kernel_rfl) (by kernel_rfl) (Ev.cellAgg (t := 22) (k := 1) (off := 0) (m := 32) (xs := bys (multL (xP ([9, 0, 0, 0, 0, 0, 0, 0, 0, 0, 0, 0, 0, 0, 0, 0, 0, 0, 0, 0, 0, 0, 0, 0, 0, 0, 0, 0, 0, 0, 0, 0] : List UInt8)) (lv (clP k)))) Hv25 rfl (load_whole (bys_lenh (multL_len _ _))) (bys_lenh (multL_len _ _)) (by kernel_rfl) (by kernel_rfl)) ?_
 exact ⟨rfl, Hv25.pk []⟩

theorem shared_go (w : World) (k u : List UInt8) (hk : List.length k = 32) (hu : List.length u = 32) : Calls Try.prog 11 #[.agg (List.toArray (bys k)), .agg (List.toArray (bys u))] w fun e w' => e = .returned (.tuple #[.agg (List.toArray (bys (multL (xP u) (lv (clP k))))), .bool (!(multL (xP u) (lv (clP k)) == ([0, 0, 0, 0, 0, 0, 0, 0, 0, 0, 0, 0, 0, 0, 0, 0, 0, 0, 0, 0, 0, 0, 0, 0, 0, 0, 0, 0, 0, 0, 0, 0] : List UInt8)))]) ∧ Ev w [] w' [] := by
 refine d_0 [(0, .agg (List.toArray (bys k))), (1, .agg (List.toArray (bys u)))] 14 Go.Proofs.Try.func11 Go.Proofs.Try.ntmps11 (Heap.nil _) fun act0 En0 Hv0 => ?_
 refine wp_seq ?_
 refine region_from ?_
 refine f_o ?_
 refine m_m 22 (bys k) En0 Hv0 fun ac2 wo3 bk1 En4 Hv5 => ?_
 refine f_o ?_
 refine m_m 22 (bys u) En4 Hv5 fun ac7 wo8 bk6 En9 Hv10 => ?_
 refine f_o ?_
 refine m_z 22 (bys (List.replicate 32 0)) En9 Hv10 fun ac12 wo13 bk11 En14 Hv15 => ?_
 refine d_e [2,3,4,5] [] En14 fun ac16 En17 => ?_
 refine then_normal ?_
 refine wp_seq ?_
 refine region_from ?_
 refine f_o ?_
 refine m_a 0 0 32 (bys k) En17 Hv15 rfl (load_whole (bys_lenh hk)) (bys_lenh hk) fun ac18 En19 => ?_
 refine f_o ?_
 refine m_a 1 0 32 (bys u) En19 Hv15 rfl (load_whole (bys_lenh hu)) (bys_lenh hu) fun ac20 En21 => ?_
 refine f_o ?_
 refine c_p En21 Hv15 (mult_go _ k u hk hu) fun ac26 wo23 En27 Hv28 => ?_
 refine f_o ?_
 refine m_z 22 (bys (List.replicate 32 0)) En27 Hv28 fun ac30 wo31 bk29 En32 Hv33 => ?_
 refine f_o ?_
 refine m_g 3 0 32 (bys (multL (xP u) (lv (clP k)))) (bys (multL (xP u) (lv (clP k)))) [.box bk1 (bys k) 22, .box bk6 (bys u) 22, .box bk11 (bys (List.replicate 32 0)) 22, .box bk29 (bys (multL (xP u) (lv (clP k)))) 22] En32 Hv33 rfl (bys_lenh (multL_len _ _)) (by rw [(bys_lenh (List.length_replicate))]; decide) (bys_one _) (store_whole (bys_lenh (List.length_replicate))) rfl fun ac34 wo35 En36 Hv37 => ?_
 refine f_e ?_
 refine then_normal ?_
 refine wp_seq ?_
 refine r_c (fun ac wo => Env ac 14 [(4, pt bk11), (5, .bool (!((multL (xP u) (lv (clP k))) == ([0, 0, 0, 0, 0, 0, 0, 0, 0, 0, 0, 0, 0, 0, 0, 0, 0, 0, 0, 0, 0, 0, 0, 0, 0, 0, 0, 0, 0, 0, 0, 0] : List UInt8)))), (6, pt bk29)] ∧ Ev w [] wo [.box bk11 (bys (multL (xP u) (lv (clP k)))) 22, .box bk29 (bys (multL (xP u) (lv (clP k)))) 22]) ?_ ?_
 ·
  refine h_s (fun wv => Ev w [] wv [.box bk29 (bys (multL (xP u) (lv (clP k)))) 22]) [] 6 ?_
  have wo38 := Hv37.trans (Ev.drew Hv37.heap)
  refine q_r 0 (s := Instr.loadAt 22 (pt bk29)) (v := .agg (List.toArray (bys (multL (xP u) (lv (clP k)))))) En36 (fun w hS => run_loadAgg2 (m := 32) (cs := bys (multL (xP u) (lv (clP k)))) (bys_lenh (multL_len _ _)) (by kernel_rfl) (by kernel_rfl) (hS.heap.cells (k := 0) (off := 0) (m := 32) rfl (load_whole (bys_lenh (multL_len _ _))))) (wo38.pk [3]) fun ac89 En90 => ?_
  refine q_r 1 (s := Instr.loadAt 22 (pt bk29)) (v := .agg (List.toArray (bys (multL (xP u) (lv (clP k)))))) En90 (fun w hS => run_loadAgg2 (m := 32) (cs := bys (multL (xP u) (lv (clP k)))) (bys_lenh (multL_len _ _)) (by kernel_rfl) (by kernel_rfl) (hS.heap.cells (k := 0) (off := 0) (m := 32) rfl (load_whole (bys_lenh (multL_len _ _))))) (wo38.pk [3]) fun ac91 En92 => ?_
  refine q_s [2] [] 3 En92 (wo38.pk [3]) fun ac93 En94 => ?_
  refine q_f 3 (s := eqOp .neq 22 (.tmp 11) (.tmp 12) (.agg (List.toArray (bys (multL (xP u) (lv (clP k)))))) (.agg (List.toArray (bys ([0, 0, 0, 0, 0, 0, 0, 0, 0, 0, 0, 0, 0, 0, 0, 0, 0, 0, 0, 0, 0, 0, 0, 0, 0, 0, 0, 0, 0, 0, 0, 0] : List UInt8))))) (v := .bool (!((multL (xP u) (lv (clP k))) == ([0, 0, 0, 0, 0, 0, 0, 0, 0, 0, 0, 0, 0, 0, 0, 0, 0, 0, 0, 0, 0, 0, 0, 0, 0, 0, 0, 0, 0, 0, 0, 0] : List UInt8)))) En94 (fun _ => Go.Dbr.bys_neop (a := (.tmp 11)) (b := (.tmp 12)) (e := 5) (m := 32) (by kernel_rfl) (by kernel_rfl) (by kernel_rfl) (by kernel_rfl) (by kernel_rfl) (multL_len _ _) (show List.length ([0, 0, 0, 0, 0, 0, 0, 0, 0, 0, 0, 0, 0, 0, 0, 0, 0, 0, 0, 0, 0, 0, 0, 0, 0, 0, 0, 0, 0, 0, 0, 0] : List UInt8) = 32 from rfl) _) (fun _ => wo38.pk [3]) fun ac95 En96 => ?_
  refine q_t 4 ?_
  refine m_g 2 0 32 (bys (multL (xP u) (lv (clP k)))) (bys (multL (xP u) (lv (clP k)))) [.box bk1 (bys k) 22, .box bk6 (bys u) 22, .box bk11 (bys (multL (xP u) (lv (clP k)))) 22, .box bk29 (bys (multL (xP u) (lv (clP k)))) 22] En96 wo38 rfl (bys_lenh (multL_len _ _)) (by rw [(bys_lenh (List.length_replicate))]; decide) (bys_one _) (store_whole (bys_lenh (List.length_replicate))) rfl fun ac97 wo98 En99 Hv100 => ?_
  refine ⟨fun _ => Hv100.pk [3], ?_⟩
  refine q_s [5] [] 0 En99 (Hv100.pk [3]) fun ac101 En102 => ?_
  exact h_e ⟨En102.sb, Hv100.pk [2, 3]⟩
 rintro ac103 wo104 ⟨En105, Hv106⟩
 refine then_normal ?_
 refine wp_ret ?_
 refine d_cell_tmp (v := .agg (List.toArray (bys (multL (xP u) (lv (clP k)))))) (x := .bool (!((multL (xP u) (lv (clP k))) == ([0, 0, 0, 0, 0, 0, 0, 0, 0, 0, 0, 0, 0, 0, 0, 0, 0, 0, 0, 0, 0, 0, 0, 0, 0, 0, 0, 0, 0, 0, 0, 0] : List UInt8)))) (t := 4) (T := 22) (ad := ⟨bk11, 0, none⟩) (u := 5) En105 (by kernel_rfl) (by kernel_rfl) (Ev.cellAgg (t := 22) (k := 0) (off := 0) (m := 32) (xs := bys (multL (xP u) (lv (clP k)))) Hv106 rfl (load_whole (bys_lenh (multL_len _ _))) (bys_lenh (multL_len _ _)) (by kernel_rfl) (by kernel_rfl)) (by kernel_rfl) ?_
 exact ⟨rfl, Hv106.pk []⟩

theorem rshared_go (w : World) (k u : List UInt8) (hk : List.length k = 32) (hu : List.length u = 32) : Calls Try.prog 12 #[.agg (List.toArray (bys k)), .agg (List.toArray (bys u))] w fun e w' => e = .returned (.tuple #[.agg (List.toArray (bys (multL (xP u) (lv (clP k))))), .bool (!(multL (xP u) (lv (clP k)) == ([0, 0, 0, 0, 0, 0, 0, 0, 0, 0, 0, 0, 0, 0, 0, 0, 0, 0, 0, 0, 0, 0, 0, 0, 0, 0, 0, 0, 0, 0, 0, 0] : List UInt8)))]) ∧ Ev w [] w' [] := by
 refine d_0 [(0, .agg (List.toArray (bys k))), (1, .agg (List.toArray (bys u)))] 14 Go.Proofs.Try.func12 Go.Proofs.Try.ntmps12 (Heap.nil _) fun act0 En0 Hv0 => ?_
 refine wp_seq ?_
 refine region_from ?_
 refine f_o ?_
 refine m_m 22 (bys k) En0 Hv0 fun ac2 wo3 bk1 En4 Hv5 => ?_
 refine f_o ?_
 refine m_m 22 (bys u) En4 Hv5 fun ac7 wo8 bk6 En9 Hv10 => ?_
 refine f_o ?_
 refine m_z 22 (bys (List.replicate 32 0)) En9 Hv10 fun ac12 wo13 bk11 En14 Hv15 => ?_
 refine d_e [2,3,4,5] [] En14 fun ac16 En17 => ?_
 refine then_normal ?_
 refine wp_seq ?_
 refine region_from ?_
 refine f_o ?_
 refine m_a 0 0 32 (bys k) En17 Hv15 rfl (load_whole (bys_lenh hk)) (bys_lenh hk) fun ac18 En19 => ?_
 refine f_o ?_
 refine m_a 1 0 32 (bys u) En19 Hv15 rfl (load_whole (bys_lenh hu)) (bys_lenh hu) fun ac20 En21 => ?_
 refine f_o ?_
 refine c_p En21 Hv15 (rmult_eq _ k u hk hu) fun ac26 wo23 En27 Hv28 => ?_
 refine f_o ?_
 refine m_z 22 (bys (List.replicate 32 0)) En27 Hv28 fun ac30 wo31 bk29 En32 Hv33 => ?_
 refine f_o ?_
 refine m_g 3 0 32 (bys (multL (xP u) (lv (clP k)))) (bys (multL (xP u) (lv (clP k)))) [.box bk1 (bys k) 22, .box bk6 (bys u) 22, .box bk11 (bys (List.replicate 32 0)) 22, .box bk29 (bys (multL (xP u) (lv (clP k)))) 22] En32 Hv33 rfl (bys_lenh (multL_len _ _)) (by rw [(bys_lenh (List.length_replicate))]; decide) (bys_one _) (store_whole (bys_lenh (List.length_replicate))) rfl fun ac34 wo35 En36 Hv37 => ?_
 refine f_e ?_
 refine then_normal ?_
 refine wp_seq ?_
 refine r_c (fun ac wo => Env ac 14 [(4, pt bk11), (5, .bool (!((multL (xP u) (lv (clP k))) == ([0, 0, 0, 0, 0, 0, 0, 0, 0, 0, 0, 0, 0, 0, 0, 0, 0, 0, 0, 0, 0, 0, 0, 0, 0, 0, 0, 0, 0, 0, 0, 0] : List UInt8)))), (6, pt bk29)] ∧ Ev w [] wo [.box bk11 (bys (multL (xP u) (lv (clP k)))) 22, .box bk29 (bys (multL (xP u) (lv (clP k)))) 22]) ?_ ?_
 ·
  refine h_s (fun wv => Ev w [] wv [.box bk29 (bys (multL (xP u) (lv (clP k)))) 22]) [] 6 ?_
  have wo38 := Hv37.trans (Ev.drew Hv37.heap)
  refine q_r 0 (s := Instr.loadAt 22 (pt bk29)) (v := .agg (List.toArray (bys (multL (xP u) (lv (clP k)))))) En36 (fun w hS => run_loadAgg2 (m := 32) (cs := bys (multL (xP u) (lv (clP k)))) (bys_lenh (multL_len _ _)) (by kernel_rfl) (by kernel_rfl) (hS.heap.cells (k := 0) (off := 0) (m := 32) rfl (load_whole (bys_lenh (multL_len _ _))))) (wo38.pk [3]) fun ac89 En90 => ?_
  refine q_r 1 (s := Instr.loadAt 22 (pt bk29)) (v := .agg (List.toArray (bys (multL (xP u) (lv (clP k)))))) En90 (fun w hS => run_loadAgg2 (m := 32) (cs := bys (multL (xP u) (lv (clP k)))) (bys_lenh (multL_len _ _)) (by kernel_rfl) (by kernel_rfl) (hS.heap.cells (k := 0) (off := 0) (m := 32) rfl (load_whole (bys_lenh (multL_len _ _))))) (wo38.pk [3]) fun ac91 En92 => ?_
  refine q_s [2] [] 3 En92 (wo38.pk [3]) fun ac93 En94 => ?_
  refine q_f 3 (s := eqOp .neq 22 (.tmp 11) (.tmp 12) (.agg (List.toArray (bys (multL (xP u) (lv (clP k)))))) (.agg (List.toArray (bys ([0, 0, 0, 0, 0, 0, 0, 0, 0, 0, 0, 0, 0, 0, 0, 0, 0, 0, 0, 0, 0, 0, 0, 0, 0, 0, 0, 0, 0, 0, 0, 0] : List UInt8))))) (v := .bool (!((multL (xP u) (lv (clP k))) == ([0, 0, 0, 0, 0, 0, 0, 0, 0, 0, 0, 0, 0, 0, 0, 0, 0, 0, 0, 0, 0, 0, 0, 0, 0, 0, 0, 0, 0, 0, 0, 0] : List UInt8)))) En94 (fun _ => Go.Dbr.bys_neop (a := (.tmp 11)) (b := (.tmp 12)) (e := 5) (m := 32) (by kernel_rfl) (by kernel_rfl) (by kernel_rfl) (by kernel_rfl) (by kernel_rfl) (multL_len _ _) (show List.length ([0, 0, 0, 0, 0, 0, 0, 0, 0, 0, 0, 0, 0, 0, 0, 0, 0, 0, 0, 0, 0, 0, 0, 0, 0, 0, 0, 0, 0, 0, 0, 0] : List UInt8) = 32 from rfl) _) (fun _ => wo38.pk [3]) fun ac95 En96 => ?_
  refine q_t 4 ?_
  refine m_g 2 0 32 (bys (multL (xP u) (lv (clP k)))) (bys (multL (xP u) (lv (clP k)))) [.box bk1 (bys k) 22, .box bk6 (bys u) 22, .box bk11 (bys (multL (xP u) (lv (clP k)))) 22, .box bk29 (bys (multL (xP u) (lv (clP k)))) 22] En96 wo38 rfl (bys_lenh (multL_len _ _)) (by rw [(bys_lenh (List.length_replicate))]; decide) (bys_one _) (store_whole (bys_lenh (List.length_replicate))) rfl fun ac97 wo98 En99 Hv100 => ?_
  refine ⟨fun _ => Hv100.pk [3], ?_⟩
  refine q_s [5] [] 0 En99 (Hv100.pk [3]) fun ac101 En102 => ?_
  exact h_e ⟨En102.sb, Hv100.pk [2, 3]⟩
 rintro ac103 wo104 ⟨En105, Hv106⟩
 refine then_normal ?_
 refine wp_ret ?_
 refine d_cell_tmp (v := .agg (List.toArray (bys (multL (xP u) (lv (clP k)))))) (x := .bool (!((multL (xP u) (lv (clP k))) == ([0, 0, 0, 0, 0, 0, 0, 0, 0, 0, 0, 0, 0, 0, 0, 0, 0, 0, 0, 0, 0, 0, 0, 0, 0, 0, 0, 0, 0, 0, 0, 0] : List UInt8)))) (t := 4) (T := 22) (ad := ⟨bk11, 0, none⟩) (u := 5) En105 (by kernel_rfl) (by kernel_rfl) (Ev.cellAgg (t := 22) (k := 0) (off := 0) (m := 32) (xs := bys (multL (xP u) (lv (clP k)))) Hv106 rfl (load_whole (bys_lenh (multL_len _ _))) (bys_lenh (multL_len _ _)) (by kernel_rfl) (by kernel_rfl)) (by kernel_rfl) ?_
 exact ⟨rfl, Hv106.pk []⟩

theorem head_ok (w : World) : Calls Try.prog 8 #[] w fun e w' => e = .returned (.bool true) ∧ Ev w [] w' [] := by
 refine d_0 [] 27 Go.Proofs.Try.func8 Go.Proofs.Try.ntmps8 (Heap.nil _) fun act0 En0 Hv0 => ?_
 refine wp_seq ?_
 refine d_r [0] [] En0 fun ac1 En2 => ?_
 refine then_normal ?_
 refine wp_seq ?_
 refine region_from ?_
 refine d_k [0,4] [] 1 En2 fun ac3 En4 => ?_
 refine f_o ?_
 refine m_z 22 (bys (List.replicate 32 0)) En4 Hv0 fun ac6 wo7 bk5 En8 Hv9 => ?_
 refine f_o ?_
 refine m_g 0 0 32 (bys ([165, 70, 227, 107, 240, 82, 124, 157, 59, 22, 21, 75, 130, 70, 94, 221, 98, 20, 76, 10, 193, 252, 90, 24, 80, 106, 34, 68, 186, 68, 154, 196] : List UInt8)) (bys ([165, 70, 227, 107, 240, 82, 124, 157, 59, 22, 21, 75, 130, 70, 94, 221, 98, 20, 76, 10, 193, 252, 90, 24, 80, 106, 34, 68, 186, 68, 154, 196] : List UInt8)) [.box bk5 (bys ([165, 70, 227, 107, 240, 82, 124, 157, 59, 22, 21, 75, 130, 70, 94, 221, 98, 20, 76, 10, 193, 252, 90, 24, 80, 106, 34, 68, 186, 68, 154, 196] : List UInt8)) 22] En8 Hv9 rfl (bys_lenh (show List.length ([165, 70, 227, 107, 240, 82, 124, 157, 59, 22, 21, 75, 130, 70, 94, 221, 98, 20, 76, 10, 193, 252, 90, 24, 80, 106, 34, 68, 186, 68, 154, 196] : List UInt8) = 32 from rfl)) (by rw [(bys_lenh (List.length_replicate))]; decide) (bys_one _) (store_whole (bys_lenh (List.length_replicate))) rfl fun ac10 wo11 En12 Hv13 => ?_
 refine f_e ?_
 refine then_normal ?_
 refine wp_seq ?_
 refine region_from ?_
 refine d_k [0,1,5] [] 1 En12 fun ac14 En15 => ?_
 refine f_o ?_
 refine m_z 22 (bys (List.replicate 32 0)) En15 Hv13 fun ac17 wo18 bk16 En19 Hv20 => ?_
 refine f_o ?_
 refine m_g 1 0 32 (bys ([230, 219, 104, 103, 88, 48, 48, 219, 53, 148, 193, 164, 36, 177, 95, 124, 114, 102, 36, 236, 38, 179, 53, 59, 16, 169, 3, 166, 208, 171, 28, 76] : List UInt8)) (bys ([230, 219, 104, 103, 88, 48, 48, 219, 53, 148, 193, 164, 36, 177, 95, 124, 114, 102, 36, 236, 38, 179, 53, 59, 16, 169, 3, 166, 208, 171, 28, 76] : List UInt8)) [.box bk5 (bys ([165, 70, 227, 107, 240, 82, 124, 157, 59, 22, 21, 75, 130, 70, 94, 221, 98, 20, 76, 10, 193, 252, 90, 24, 80, 106, 34, 68, 186, 68, 154, 196] : List UInt8)) 22, .box bk16 (bys ([230, 219, 104, 103, 88, 48, 48, 219, 53, 148, 193, 164, 36, 177, 95, 124, 114, 102, 36, 236, 38, 179, 53, 59, 16, 169, 3, 166, 208, 171, 28, 76] : List UInt8)) 22] En19 Hv20 rfl (bys_lenh (show List.length ([230, 219, 104, 103, 88, 48, 48, 219, 53, 148, 193, 164, 36, 177, 95, 124, 114, 102, 36, 236, 38, 179, 53, 59, 16, 169, 3, 166, 208, 171, 28, 76] : List UInt8) = 32 from rfl)) (by rw [(bys_lenh (List.length_replicate))]; decide) (bys_one _) (store_whole (bys_lenh (List.length_replicate))) rfl fun ac21 wo22 En23 Hv24 => ?_
 refine f_e ?_
 refine then_normal ?_
 refine wp_seq ?_
 refine region_from ?_
 refine f_o ?_
 refine m_a 0 0 32 (bys ([165, 70, 227, 107, 240, 82, 124, 157, 59, 22, 21, 75, 130, 70, 94, 221, 98, 20, 76, 10, 193, 252, 90, 24, 80, 106, 34, 68, 186, 68, 154, 196] : List UInt8)) En23 Hv24 rfl (load_whole (bys_lenh (show List.length ([165, 70, 227, 107, 240, 82, 124, 157, 59, 22, 21, 75, 130, 70, 94, 221, 98, 20, 76, 10, 193, 252, 90, 24, 80, 106, 34, 68, 186, 68, 154, 196] : List UInt8) = 32 from rfl))) (bys_lenh (show List.length ([165, 70, 227, 107, 240, 82, 124, 157, 59, 22, 21, 75, 130, 70, 94, 221, 98, 20, 76, 10, 193, 252, 90, 24, 80, 106, 34, 68, 186, 68, 154, 196] : List UInt8) = 32 from rfl)) fun ac25 En26 => ?_
 refine f_o ?_
 refine m_a 1 0 32 (bys ([230, 219, 104, 103, 88, 48, 48, 219, 53, 148, 193, 164, 36, 177, 95, 124, 114, 102, 36, 236, 38, 179, 53, 59, 16, 169, 3, 166, 208, 171, 28, 76] : List UInt8)) En26 Hv24 rfl (load_whole (bys_lenh (show List.length ([230, 219, 104, 103, 88, 48, 48, 219, 53, 148, 193, 164, 36, 177, 95, 124, 114, 102, 36, 236, 38, 179, 53, 59, 16, 169, 3, 166, 208, 171, 28, 76] : List UInt8) = 32 from rfl))) (bys_lenh (show List.length ([230, 219, 104, 103, 88, 48, 48, 219, 53, 148, 193, 164, 36, 177, 95, 124, 114, 102, 36, 236, 38, 179, 53, 59, 16, 169, 3, 166, 208, 171, 28, 76] : List UInt8) = 32 from rfl)) fun ac27 En28 => ?_
 refine f_o ?_
 refine c_p En28 Hv24 (mult_go _ ([165, 70, 227, 107, 240, 82, 124, 157, 59, 22, 21, 75, 130, 70, 94, 221, 98, 20, 76, 10, 193, 252, 90, 24, 80, 106, 34, 68, 186, 68, 154, 196] : List UInt8) ([230, 219, 104, 103, 88, 48, 48, 219, 53, 148, 193, 164, 36, 177, 95, 124, 114, 102, 36, 236, 38, 179, 53, 59, 16, 169, 3, 166, 208, 171, 28, 76] : List UInt8) (show List.length ([165, 70, 227, 107, 240, 82, 124, 157, 59, 22, 21, 75, 130, 70, 94, 221, 98, 20, 76, 10, 193, 252, 90, 24, 80, 106, 34, 68, 186, 68, 154, 196] : List UInt8) = 32 from rfl) (show List.length ([230, 219, 104, 103, 88, 48, 48, 219, 53, 148, 193, 164, 36, 177, 95, 124, 114, 102, 36, 236, 38, 179, 53, 59, 16, 169, 3, 166, 208, 171, 28, 76] : List UInt8) = 32 from rfl)) fun ac33 wo30 En34 Hv35 => ?_
 refine f_o ?_
 refine m_z 22 (bys (List.replicate 32 0)) En34 Hv35 fun ac37 wo38 bk36 En39 Hv40 => ?_
 refine f_o ?_
 refine m_g 2 0 32 (bys (multL (xP ([230, 219, 104, 103, 88, 48, 48, 219, 53, 148, 193, 164, 36, 177, 95, 124, 114, 102, 36, 236, 38, 179, 53, 59, 16, 169, 3, 166, 208, 171, 28, 76] : List UInt8)) (lv (clP ([165, 70, 227, 107, 240, 82, 124, 157, 59, 22, 21, 75, 130, 70, 94, 221, 98, 20, 76, 10, 193, 252, 90, 24, 80, 106, 34, 68, 186, 68, 154, 196] : List UInt8))))) (bys (multL (xP ([230, 219, 104, 103, 88, 48, 48, 219, 53, 148, 193, 164, 36, 177, 95, 124, 114, 102, 36, 236, 38, 179, 53, 59, 16, 169, 3, 166, 208, 171, 28, 76] : List UInt8)) (lv (clP ([165, 70, 227, 107, 240, 82, 124, 157, 59, 22, 21, 75, 130, 70, 94, 221, 98, 20, 76, 10, 193, 252, 90, 24, 80, 106, 34, 68, 186, 68, 154, 196] : List UInt8))))) [.box bk5 (bys ([165, 70, 227, 107, 240, 82, 124, 157, 59, 22, 21, 75, 130, 70, 94, 221, 98, 20, 76, 10, 193, 252, 90, 24, 80, 106, 34, 68, 186, 68, 154, 196] : List UInt8)) 22, .box bk16 (bys ([230, 219, 104, 103, 88, 48, 48, 219, 53, 148, 193, 164, 36, 177, 95, 124, 114, 102, 36, 236, 38, 179, 53, 59, 16, 169, 3, 166, 208, 171, 28, 76] : List UInt8)) 22, .box bk36 (bys (multL (xP ([230, 219, 104, 103, 88, 48, 48, 219, 53, 148, 193, 164, 36, 177, 95, 124, 114, 102, 36, 236, 38, 179, 53, 59, 16, 169, 3, 166, 208, 171, 28, 76] : List UInt8)) (lv (clP ([165, 70, 227, 107, 240, 82, 124, 157, 59, 22, 21, 75, 130, 70, 94, 221, 98, 20, 76, 10, 193, 252, 90, 24, 80, 106, 34, 68, 186, 68, 154, 196] : List UInt8))))) 22] En39 Hv40 rfl (bys_lenh (multL_len _ _)) (by rw [(bys_lenh (List.length_replicate))]; decide) (bys_one _) (store_whole (bys_lenh (List.length_replicate))) rfl fun ac41 wo42 En43 Hv44 => ?_
 refine f_e ?_
 refine then_normal ?_
 refine wp_seq ?_
 rw [head_eq] at Hv44
 refine region_from ?_
 refine d_k [0,1,2,3,9] [] 1 En43 fun ac45 En46 => ?_
 refine f_o ?_
 have hb47 : 0 < List.length ([195, 218, 85, 55, 157, 233, 198, 144, 142, 148, 234, 77, 242, 141, 8, 79, 50, 236, 207, 3, 73, 28, 113, 247, 84, 180, 7, 85, 119, 162, 133, 82] : List UInt8) := by rw [(show List.length ([195, 218, 85, 55, 157, 233, 198, 144, 142, 148, 234, 77, 242, 141, 8, 79, 50, 236, 207, 3, 73, 28, 113, 247, 84, 180, 7, 85, 119, 162, 133, 82] : List UInt8) = 32 from rfl)]; omega
 refine m_v 2 0 (bv (List.getD ([195, 218, 85, 55, 157, 233, 198, 144, 142, 148, 234, 77, 242, 141, 8, 79, 50, 236, 207, 3, 73, 28, 113, 247, 84, 180, 7, 85, 119, 162, 133, 82] : List UInt8) 0 0)) En46 Hv44 rfl (bys_getD hb47) fun ac48 En49 => ?_
 refine d_k [0,1,2,3,12,13] [(2, g_b (show (((UInt8.toNat (List.getD ([195, 218, 85, 55, 157, 233, 198, 144, 142, 148, 234, 77, 242, 141, 8, 79, 50, 236, 207, 3, 73, 28, 113, 247, 84, 180, 7, 85, 119, 162, 133, 82] : List UInt8) 0 0) : Nat) : Int) == (195 : Int)) = true from (by decide)))] 5 En49 fun ac50 En51 => ?_
 refine f_o ?_
 have hb52 : 1 < List.length ([195, 218, 85, 55, 157, 233, 198, 144, 142, 148, 234, 77, 242, 141, 8, 79, 50, 236, 207, 3, 73, 28, 113, 247, 84, 180, 7, 85, 119, 162, 133, 82] : List UInt8) := by rw [(show List.length ([195, 218, 85, 55, 157, 233, 198, 144, 142, 148, 234, 77, 242, 141, 8, 79, 50, 236, 207, 3, 73, 28, 113, 247, 84, 180, 7, 85, 119, 162, 133, 82] : List UInt8) = 32 from rfl)]; omega
 refine m_v 2 1 (bv (List.getD ([195, 218, 85, 55, 157, 233, 198, 144, 142, 148, 234, 77, 242, 141, 8, 79, 50, 236, 207, 3, 73, 28, 113, 247, 84, 180, 7, 85, 119, 162, 133, 82] : List UInt8) 1 0)) En51 Hv44 rfl (bys_getD hb52) fun ac53 En54 => ?_
 refine d_k [0,1,2,3,17,18] [(6, g_b (show (((UInt8.toNat (List.getD ([195, 218, 85, 55, 157, 233, 198, 144, 142, 148, 234, 77, 242, 141, 8, 79, 50, 236, 207, 3, 73, 28, 113, 247, 84, 180, 7, 85, 119, 162, 133, 82] : List UInt8) 1 0) : Nat) : Int) == (218 : Int)) = true from (by decide)))] 10 En54 fun ac55 En56 => ?_
 refine f_o ?_
 have hb57 : 30 < List.length ([195, 218, 85, 55, 157, 233, 198, 144, 142, 148, 234, 77, 242, 141, 8, 79, 50, 236, 207, 3, 73, 28, 113, 247, 84, 180, 7, 85, 119, 162, 133, 82] : List UInt8) := by rw [(show List.length ([195, 218, 85, 55, 157, 233, 198, 144, 142, 148, 234, 77, 242, 141, 8, 79, 50, 236, 207, 3, 73, 28, 113, 247, 84, 180, 7, 85, 119, 162, 133, 82] : List UInt8) = 32 from rfl)]; omega
 refine m_v 2 30 (bv (List.getD ([195, 218, 85, 55, 157, 233, 198, 144, 142, 148, 234, 77, 242, 141, 8, 79, 50, 236, 207, 3, 73, 28, 113, 247, 84, 180, 7, 85, 119, 162, 133, 82] : List UInt8) 30 0)) En56 Hv44 rfl (bys_getD hb57) fun ac58 En59 => ?_
 refine d_k [0,1,2,3,22,23] [(11, g_b (show (((UInt8.toNat (List.getD ([195, 218, 85, 55, 157, 233, 198, 144, 142, 148, 234, 77, 242, 141, 8, 79, 50, 236, 207, 3, 73, 28, 113, 247, 84, 180, 7, 85, 119, 162, 133, 82] : List UInt8) 30 0) : Nat) : Int) == (133 : Int)) = true from (by decide)))] 15 En59 fun ac60 En61 => ?_
 refine f_o ?_
 have hb62 : 31 < List.length ([195, 218, 85, 55, 157, 233, 198, 144, 142, 148, 234, 77, 242, 141, 8, 79, 50, 236, 207, 3, 73, 28, 113, 247, 84, 180, 7, 85, 119, 162, 133, 82] : List UInt8) := by rw [(show List.length ([195, 218, 85, 55, 157, 233, 198, 144, 142, 148, 234, 77, 242, 141, 8, 79, 50, 236, 207, 3, 73, 28, 113, 247, 84, 180, 7, 85, 119, 162, 133, 82] : List UInt8) = 32 from rfl)]; omega
 refine m_v 2 31 (bv (List.getD ([195, 218, 85, 55, 157, 233, 198, 144, 142, 148, 234, 77, 242, 141, 8, 79, 50, 236, 207, 3, 73, 28, 113, 247, 84, 180, 7, 85, 119, 162, 133, 82] : List UInt8) 31 0)) En61 Hv44 rfl (bys_getD hb62) fun ac63 En64 => ?_
 refine d_e [0,1,2,3] [(16, g_b (show (((UInt8.toNat (List.getD ([195, 218, 85, 55, 157, 233, 198, 144, 142, 148, 234, 77, 242, 141, 8, 79, 50, 236, 207, 3, 73, 28, 113, 247, 84, 180, 7, 85, 119, 162, 133, 82] : List UInt8) 31 0) : Nat) : Int) == (82 : Int)) = true from (by decide)))] En64 fun ac65 En66 => ?_
 refine then_normal ?_
 refine wp_ret ?_
 refine d_ret1 (t := 0) (v := .bool true) En66 (by kernel_rfl) (by kernel_rfl) ?_
 exact ⟨rfl, Hv44.pk []⟩

theorem mults_walk (k : List UInt8) (u : List UInt8) (w : World) (n_k : (List.length k = 32)) (n_u : (List.length u = 32)) : Calls Try.prog 3 #[.agg (List.toArray (bys k)), .agg (List.toArray (bys u))] w fun e w' => e = .returned (.bool true) ∧ Ev w [] w' [] := by
 refine d_0 [(0, .agg (List.toArray (bys k))), (1, .agg (List.toArray (bys u)))] 17 Go.Proofs.Try.func3 Go.Proofs.Try.ntmps3 (Heap.nil _) fun act0 En0 Hv0 => ?_
 refine wp_seq ?_
 refine region_from ?_
 refine f_o ?_
 refine m_m 22 (bys k) En0 Hv0 fun ac2 wo3 bk1 En4 Hv5 => ?_
 refine f_o ?_
 refine m_m 22 (bys u) En4 Hv5 fun ac7 wo8 bk6 En9 Hv10 => ?_
 refine d_e [2,3,4] [] En9 fun ac11 En12 => ?_
 refine then_normal ?_
 refine wp_seq ?_
 refine region_from ?_
 refine f_o ?_
 refine c_p En12 Hv10 (head_ok _) fun ac17 wo14 En18 Hv19 => ?_
 refine d_e [2,3,4,5] [] En18 fun ac20 En21 => ?_
 refine then_normal ?_
 refine wp_seq ?_
 refine r_c (fun ac wo => Env ac 17 [(4, .bool true)] ∧ Ev w [] wo []) ?_ ?_
 ·
  refine h_s (fun wv => Ev w [] wv [.box bk1 (bys k) 22, .box bk6 (bys u) 22]) [] 11 ?_
  have wo22 := Hv19.trans (Ev.drew Hv19.heap)
  refine q_s [0,1] [] 9 En21 (wo22.pk [0, 1]) fun ac222 En223 => ?_
  refine q_r 2 (s := Instr.loadAt 22 (pt bk1)) (v := .agg (List.toArray (bys k))) En223 (fun w hS => run_loadAgg2 (m := 32) (cs := bys k) (bys_lenh n_k) (by kernel_rfl) (by kernel_rfl) (hS.heap.cells (k := 0) (off := 0) (m := 32) rfl (load_whole (bys_lenh n_k)))) (wo22.pk [0, 1]) fun ac224 En225 => ?_
  refine q_r 3 (s := Instr.loadAt 22 (pt bk6)) (v := .agg (List.toArray (bys u))) En225 (fun w hS => run_loadAgg2 (m := 32) (cs := bys u) (bys_lenh n_u) (by kernel_rfl) (by kernel_rfl) (hS.heap.cells (k := 1) (off := 0) (m := 32) rfl (load_whole (bys_lenh n_u)))) (wo22.pk [0, 1]) fun ac226 En227 => ?_
  refine q_r 5 (s := Instr.loadAt 22 (pt bk1)) (v := .agg (List.toArray (bys k))) En227 (fun w hS => run_loadAgg2 (m := 32) (cs := bys k) (bys_lenh n_k) (by kernel_rfl) (by kernel_rfl) (hS.heap.cells (k := 0) (off := 0) (m := 32) rfl (load_whole (bys_lenh n_k)))) (wo22.pk [0, 1]) fun ac228 En229 => ?_
  refine q_r 6 (s := Instr.loadAt 22 (pt bk6)) (v := .agg (List.toArray (bys u))) En229 (fun w hS => run_loadAgg2 (m := 32) (cs := bys u) (bys_lenh n_u) (by kernel_rfl) (by kernel_rfl) (hS.heap.cells (k := 1) (off := 0) (m := 32) rfl (load_whole (bys_lenh n_u)))) (wo22.pk [0, 1]) fun ac230 En231 => ?_
  refine q_t 4 ?_
  refine c_p En231 wo22 (mult_go _ k u n_k n_u) fun ac236 wo233 En237 Hv238 => ?_
  refine ⟨fun _ => Hv238.pk [0, 1], ?_⟩
  refine q_t 7 ?_
  refine c_p En237 Hv238 (rmult_eq _ k u n_k n_u) fun ac243 wo240 En244 Hv245 => ?_
  refine ⟨fun _ => Hv245.pk [0, 1], ?_⟩
  refine q_f 8 (s := eqOp .eql 22 (.tmp 11) (.tmp 14) (.agg (List.toArray (bys (multL (xP u) (lv (clP k)))))) (.agg (List.toArray (bys (multL (xP u) (lv (clP k))))))) (v := .bool true) En244 (fun _ => Go.Dbr.run_is (fun w => Go.Dbr.bys_eqop (a := (.tmp 11)) (b := (.tmp 14)) (e := 5) (m := 32) (by kernel_rfl) (by kernel_rfl) (by kernel_rfl) (by kernel_rfl) (by kernel_rfl) (multL_len _ _) (multL_len _ _) w) (beq_self_eq_true _) _) (fun _ => Hv245.pk [0, 1]) fun ac246 En247 => ?_
  refine q_s [9,10] [] 0 En247 (Hv245.pk [0, 1]) fun ac248 En249 => ?_
  exact h_e ⟨En249.sb, Hv245.pk []⟩
 rintro ac250 wo251 ⟨En252, Hv253⟩
 refine then_normal ?_
 refine wp_ret ?_
 refine d_ret1 (t := 4) (v := .bool true) En252 (by kernel_rfl) (by kernel_rfl) ?_
 exact ⟨rfl, Hv253.pk []⟩

theorem bits_walk (k : List UInt8) (u : List UInt8) (low : UInt8) (high : UInt8) (w : World) (n_k : (List.length k = 32)) (n_u : (List.length u = 32)) : Calls Try.prog 4 #[.agg (List.toArray (bys k)), .agg (List.toArray (bys u)), bv low, bv high] w fun e w' => e = .returned (.bool true) ∧ Ev w [] w' [] := by
 refine d_0 [(0, .agg (List.toArray (bys k))), (1, .agg (List.toArray (bys u))), (2, bv low), (3, bv high)] 43 Go.Proofs.Try.func4 Go.Proofs.Try.ntmps4 (Heap.nil _) fun act0 En0 Hv0 => ?_
 refine wp_seq ?_
 refine region_from ?_
 refine f_o ?_
 refine m_m 22 (bys k) En0 Hv0 fun ac2 wo3 bk1 En4 Hv5 => ?_
 refine f_o ?_
 refine m_m 22 (bys u) En4 Hv5 fun ac7 wo8 bk6 En9 Hv10 => ?_
 refine d_e [2,3,4,5,8] [] En9 fun ac11 En12 => ?_
 refine then_normal ?_
 refine wp_seq ?_
 refine region_from ?_
 refine f_o ?_
 refine c_p En12 Hv10 (head_ok _) fun ac17 wo14 En18 Hv19 => ?_
 refine d_e [2,3,4,5,8,9] [] En18 fun ac20 En21 => ?_
 refine then_normal ?_
 refine wp_seq ?_
 refine region_from ?_
 refine f_o ?_
 refine m_a 0 0 32 (bys k) En21 Hv19 rfl (load_whole (bys_lenh n_k)) (bys_lenh n_k) fun ac22 En23 => ?_
 refine f_o ?_
 refine m_z 22 (bys (List.replicate 32 0)) En23 Hv19 fun ac25 wo26 bk24 En27 Hv28 => ?_
 refine f_o ?_
 refine m_g 2 0 32 (bys k) (bys k) [.box bk1 (bys k) 22, .box bk6 (bys u) 22, .box bk24 (bys k) 22] En27 Hv28 rfl (bys_lenh n_k) (by rw [(bys_lenh (List.length_replicate))]; decide) (bys_one _) (store_whole (bys_lenh (List.length_replicate))) rfl fun ac29 wo30 En31 Hv32 => ?_
 refine f_e ?_
 refine then_normal ?_
 refine wp_seq ?_
 refine region_from ?_
 refine d_k [2,3,4,5,8,9,10,14] [] 1 En31 fun ac33 En34 => ?_
 refine f_o ?_
 have hb35 : 0 < List.length k := by rw [n_k]; omega
 refine m_v 2 0 (bv (List.getD k 0 0)) En34 Hv32 rfl (bys_getD hb35) fun ac36 En37 => ?_
 refine d_k [3,4,5,8,9,10,18,19] [(3, g_i .u8 (Go.Dbr.u8_and (x := low) (y := (7 : UInt8)) rfl rfl)), (4, g_i .u8 (Go.Dbr.u8_xor (x := List.getD k 0 0) (y := low &&& (7 : UInt8)) rfl rfl))] 6 En37 fun ac38 En39 => ?_
 refine f_o ?_
 have hb40 : 0 < List.length k := by rw [n_k]; omega
 refine m_t 2 0 (bv ((List.getD k 0 0) ^^^ (low &&& (7 : UInt8)))) [.box bk1 (bys k) 22, .box bk6 (bys u) 22, .box bk24 (bys (List.set k 0 ((List.getD k 0 0) ^^^ (low &&& (7 : UInt8))))) 22] En39 Hv32 rfl (bys_getD hb40) (bys_set _ _ _) rfl fun ac41 wo42 En43 Hv44 => ?_
 refine f_e ?_
 refine then_normal ?_
 refine wp_seq ?_
 refine region_from ?_
 refine d_k [3,4,5,8,9,10,20] [] 1 En43 fun ac45 En46 => ?_
 refine f_o ?_
 have hb47 : 31 < List.length (List.set k 0 ((List.getD k 0 0) ^^^ (low &&& (7 : UInt8)))) := by rw [(List.length_set.trans n_k)]; omega
 refine m_v 2 31 (bv (List.getD (List.set k 0 ((List.getD k 0 0) ^^^ (low &&& (7 : UInt8)))) 31 0)) En46 Hv44 rfl (bys_getD hb47) fun ac48 En49 => ?_
 refine d_k [3,4,5,8,9,10,24,25] [(3, g_i .u8 (Go.Dbr.u8_and (x := high) (y := (192 : UInt8)) rfl rfl)), (4, g_i .u8 (Go.Dbr.u8_xor (x := List.getD (List.set k 0 ((List.getD k 0 0) ^^^ (low &&& (7 : UInt8)))) 31 0) (y := high &&& (192 : UInt8)) rfl rfl))] 6 En49 fun ac50 En51 => ?_
 refine f_o ?_
 have hb52 : 31 < List.length (List.set k 0 ((List.getD k 0 0) ^^^ (low &&& (7 : UInt8)))) := by rw [(List.length_set.trans n_k)]; omega
 refine m_t 2 31 (bv ((List.getD (List.set k 0 ((List.getD k 0 0) ^^^ (low &&& (7 : UInt8)))) 31 0) ^^^ (high &&& (192 : UInt8)))) [.box bk1 (bys k) 22, .box bk6 (bys u) 22, .box bk24 (bys (List.set (List.set k 0 ((List.getD k 0 0) ^^^ (low &&& (7 : UInt8)))) 31 ((List.getD (List.set k 0 ((List.getD k 0 0) ^^^ (low &&& (7 : UInt8)))) 31 0) ^^^ (high &&& (192 : UInt8))))) 22] En51 Hv44 rfl (bys_getD hb52) (bys_set _ _ _) rfl fun ac53 wo54 En55 Hv56 => ?_
 refine f_e ?_
 refine then_normal ?_
 refine wp_seq ?_
 refine region_from ?_
 refine f_o ?_
 refine m_a 1 0 32 (bys u) En55 Hv56 rfl (load_whole (bys_lenh n_u)) (bys_lenh n_u) fun ac57 En58 => ?_
 refine f_o ?_
 refine m_z 22 (bys (List.replicate 32 0)) En58 Hv56 fun ac60 wo61 bk59 En62 Hv63 => ?_
 refine f_o ?_
 refine m_g 3 0 32 (bys u) (bys u) [.box bk1 (bys k) 22, .box bk6 (bys u) 22, .box bk24 (bys (List.set (List.set k 0 ((List.getD k 0 0) ^^^ (low &&& (7 : UInt8)))) 31 ((List.getD (List.set k 0 ((List.getD k 0 0) ^^^ (low &&& (7 : UInt8)))) 31 0) ^^^ (high &&& (192 : UInt8))))) 22, .box bk59 (bys u) 22] En62 Hv63 rfl (bys_lenh n_u) (by rw [(bys_lenh (List.length_replicate))]; decide) (bys_one _) (store_whole (bys_lenh (List.length_replicate))) rfl fun ac64 wo65 En66 Hv67 => ?_
 refine f_e ?_
 refine then_normal ?_
 refine wp_seq ?_
 refine region_from ?_
 refine d_k [3,4,5,8,9,10,11,27] [] 1 En66 fun ac68 En69 => ?_
 refine f_o ?_
 have hb70 : 31 < List.length u := by rw [n_u]; omega
 refine m_v 3 31 (bv (List.getD u 31 0)) En69 Hv67 rfl (bys_getD hb70) fun ac71 En72 => ?_
 refine d_k [3,4,5,8,9,10,11,31,32] [(3, g_i .u8 (Go.Dbr.u8_and (x := high) (y := (128 : UInt8)) rfl rfl)), (4, g_i .u8 (Go.Dbr.u8_xor (x := List.getD u 31 0) (y := high &&& (128 : UInt8)) rfl rfl))] 6 En72 fun ac73 En74 => ?_
 refine f_o ?_
 have hb75 : 31 < List.length u := by rw [n_u]; omega
 refine m_t 3 31 (bv ((List.getD u 31 0) ^^^ (high &&& (128 : UInt8)))) [.box bk1 (bys k) 22, .box bk6 (bys u) 22, .box bk24 (bys (List.set (List.set k 0 ((List.getD k 0 0) ^^^ (low &&& (7 : UInt8)))) 31 ((List.getD (List.set k 0 ((List.getD k 0 0) ^^^ (low &&& (7 : UInt8)))) 31 0) ^^^ (high &&& (192 : UInt8))))) 22, .box bk59 (bys (List.set u 31 ((List.getD u 31 0) ^^^ (high &&& (128 : UInt8))))) 22] En74 Hv67 rfl (bys_getD hb75) (bys_set _ _ _) rfl fun ac76 wo77 En78 Hv79 => ?_
 refine f_e ?_
 refine then_normal ?_
 refine wp_seq ?_
 refine r_c (fun ac wo => Env ac 43 [(3, bv high), (4, pt bk1), (5, pt bk6), (8, .bool true), (10, pt bk24), (11, pt bk59)] ∧ Ev w [] wo [.box bk1 (bys k) 22, .box bk6 (bys u) 22, .box bk24 (bys (List.set (List.set k 0 ((List.getD k 0 0) ^^^ (low &&& (7 : UInt8)))) 31 ((List.getD (List.set k 0 ((List.getD k 0 0) ^^^ (low &&& (7 : UInt8)))) 31 0) ^^^ (high &&& (192 : UInt8))))) 22, .box bk59 (bys (List.set u 31 ((List.getD u 31 0) ^^^ (high &&& (128 : UInt8))))) 22]) ?_ ?_
 ·
  refine h_s (fun wv => Ev w [] wv [.box bk1 (bys k) 22, .box bk6 (bys u) 22, .box bk24 (bys (List.set (List.set k 0 ((List.getD k 0 0) ^^^ (low &&& (7 : UInt8)))) 31 ((List.getD (List.set k 0 ((List.getD k 0 0) ^^^ (low &&& (7 : UInt8)))) 31 0) ^^^ (high &&& (192 : UInt8))))) 22, .box bk59 (bys (List.set u 31 ((List.getD u 31 0) ^^^ (high &&& (128 : UInt8))))) 22]) [] 11 ?_
  have wo80 := Hv79.trans (Ev.drew Hv79.heap)
  refine q_s [0,1] [] 9 En78 (wo80.pk [0, 1, 2, 3]) fun ac280 En281 => ?_
  refine q_r 2 (s := Instr.loadAt 22 (pt bk1)) (v := .agg (List.toArray (bys k))) En281 (fun w hS => run_loadAgg2 (m := 32) (cs := bys k) (bys_lenh n_k) (by kernel_rfl) (by kernel_rfl) (hS.heap.cells (k := 0) (off := 0) (m := 32) rfl (load_whole (bys_lenh n_k)))) (wo80.pk [0, 1, 2, 3]) fun ac282 En283 => ?_
  refine q_r 3 (s := Instr.loadAt 22 (pt bk6)) (v := .agg (List.toArray (bys u))) En283 (fun w hS => run_loadAgg2 (m := 32) (cs := bys u) (bys_lenh n_u) (by kernel_rfl) (by kernel_rfl) (hS.heap.cells (k := 1) (off := 0) (m := 32) rfl (load_whole (bys_lenh n_u)))) (wo80.pk [0, 1, 2, 3]) fun ac284 En285 => ?_
  refine q_r 5 (s := Instr.loadAt 22 (pt bk24)) (v := .agg (List.toArray (bys (List.set (List.set k 0 ((List.getD k 0 0) ^^^ (low &&& (7 : UInt8)))) 31 ((List.getD (List.set k 0 ((List.getD k 0 0) ^^^ (low &&& (7 : UInt8)))) 31 0) ^^^ (high &&& (192 : UInt8))))))) En285 (fun w hS => run_loadAgg2 (m := 32) (cs := bys (List.set (List.set k 0 ((List.getD k 0 0) ^^^ (low &&& (7 : UInt8)))) 31 ((List.getD (List.set k 0 ((List.getD k 0 0) ^^^ (low &&& (7 : UInt8)))) 31 0) ^^^ (high &&& (192 : UInt8))))) (bys_lenh (List.length_set.trans (List.length_set.trans n_k))) (by kernel_rfl) (by kernel_rfl) (hS.heap.cells (k := 2) (off := 0) (m := 32) rfl (load_whole (bys_lenh (List.length_set.trans (List.length_set.trans n_k)))))) (wo80.pk [0, 1, 2, 3]) fun ac286 En287 => ?_
  refine q_r 6 (s := Instr.loadAt 22 (pt bk59)) (v := .agg (List.toArray (bys (List.set u 31 ((List.getD u 31 0) ^^^ (high &&& (128 : UInt8))))))) En287 (fun w hS => run_loadAgg2 (m := 32) (cs := bys (List.set u 31 ((List.getD u 31 0) ^^^ (high &&& (128 : UInt8))))) (bys_lenh (List.length_set.trans n_u)) (by kernel_rfl) (by kernel_rfl) (hS.heap.cells (k := 3) (off := 0) (m := 32) rfl (load_whole (bys_lenh (List.length_set.trans n_u))))) (wo80.pk [0, 1, 2, 3]) fun ac288 En289 => ?_
  refine q_t 4 ?_
  refine c_p En289 wo80 (mult_go _ k u n_k n_u) fun ac294 wo291 En295 Hv296 => ?_
  refine ⟨fun _ => Hv296.pk [0, 1, 2, 3], ?_⟩
  refine q_t 7 ?_
  refine c_p En295 Hv296 (mult_go _ (List.set (List.set k 0 ((List.getD k 0 0) ^^^ (low &&& (7 : UInt8)))) 31 ((List.getD (List.set k 0 ((List.getD k 0 0) ^^^ (low &&& (7 : UInt8)))) 31 0) ^^^ (high &&& (192 : UInt8)))) (List.set u 31 ((List.getD u 31 0) ^^^ (high &&& (128 : UInt8)))) (List.length_set.trans (List.length_set.trans n_k)) (List.length_set.trans n_u)) fun ac301 wo298 En302 Hv303 => ?_
  refine ⟨fun _ => Hv303.pk [0, 1, 2, 3], ?_⟩
  refine q_f 8 (s := eqOp .eql 22 (.tmp 37) (.tmp 40) (.agg (List.toArray (bys (multL (xP u) (lv (clP k)))))) (.agg (List.toArray (bys (multL (xP (List.set u 31 ((List.getD u 31 0) ^^^ (high &&& (128 : UInt8))))) (lv (clP (List.set (List.set k 0 ((List.getD k 0 0) ^^^ (low &&& (7 : UInt8)))) 31 ((List.getD (List.set k 0 ((List.getD k 0 0) ^^^ (low &&& (7 : UInt8)))) 31 0) ^^^ (high &&& (192 : UInt8))))))))))) (v := .bool true) En302 (fun _ => Go.Dbr.run_is (fun w => Go.Dbr.bys_eqop (a := (.tmp 37)) (b := (.tmp 40)) (e := 5) (m := 32) (by kernel_rfl) (by kernel_rfl) (by kernel_rfl) (by kernel_rfl) (by kernel_rfl) (multL_len _ _) (multL_len _ _) w) (by rw [clP_free n_k, xP_free n_u]; exact beq_self_eq_true _) _) (fun _ => Hv303.pk [0, 1, 2, 3]) fun ac304 En305 => ?_
  refine q_s [9,10] [] 0 En305 (Hv303.pk [0, 1, 2, 3]) fun ac306 En307 => ?_
  exact h_e ⟨En307.sb, Hv303.pk [0, 1, 2, 3]⟩
 rintro ac308 wo309 ⟨En310, Hv311⟩
 refine then_normal ?_
 refine wp_ret ?_
 refine d_ret1 (t := 8) (v := .bool true) En310 (by kernel_rfl) (by kernel_rfl) ?_
 exact ⟨rfl, Hv311.pk []⟩

end Go.Proofs.Yteainioaejnecaa
