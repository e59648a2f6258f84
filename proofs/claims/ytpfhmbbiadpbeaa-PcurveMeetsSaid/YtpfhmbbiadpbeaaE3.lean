/- Layer 13: secrets, points of numbers, the head. -/
import Derived.Test.YtpfhmbbiadpbeaaE2
import Derived.Test.YtpfhmbbiadpbeaaArr
namespace Go.Proofs.Ytpfhmbbiadpbeaa
open Go.Dbr
set_option maxRecDepth 100000
set_option maxHeartbeats 2000000
set_option linter.unusedVariables false
set_option linter.unusedSimpArgs false

def mayN (d : L4) : Bool := !(d == z4) && decide (nv d < mF 3)
theorem may_no1 {d : L4} (h : d = z4) : false = mayN d := by subst h; rfl
theorem may_rest {d : L4} (h : ¬ d = z4) : decide (nv d < mF 3) = mayN d := by rw [mayN, beq_f h]; rfl
abbrev z32 : List UInt8 := List.replicate 32 0
noncomputable def shN (d : L4) (p : PZ) : List UInt8 × Int := bif mayN d then (bif onP p && !p.1 then (List.reverse (lb 32 (nv (mulP (nv d) p).2.1)), 0) else (z32, 131)) else (z32, 132)
theorem sh_no1 {d : L4} {p : PZ} (h : ¬ mayN d = true) : (z32, (132 : Int)) = shN d p := by rw [shN, Bool.eq_false_iff.2 h]; rfl
theorem sh_no2 {d : L4} {p : PZ} (h : mayN d = true) (h2 : p.1 = true) : (z32, (131 : Int)) = shN d p := by rw [shN, h, h2, Bool.not_true, Bool.and_false]; rfl
theorem sh_no3 {d : L4} {p : PZ} (h : mayN d = true) (h2 : ¬ onP p = true) : (z32, (131 : Int)) = shN d p := by rw [shN, h, Bool.eq_false_iff.2 h2]; rfl
theorem sh_yes {d : L4} {p : PZ} (h : mayN d = true) (h1 : ¬ p.1 = true) (h2 : onP p = true) : (List.reverse (lb 32 (nv (mulP (nv d) p).2.1)), (0 : Int)) = shN d p := by rw [shN, h, h2, Bool.eq_false_iff.2 h1]; rfl
theorem shN_len (d : L4) (p : PZ) : (shN d p).1.length = 32 := by
  unfold shN
  cases mayN d with
  | false => rfl
  | true =>
    simp only [Bool.cond_true]
    cases onP p && !p.1 with
    | false => rfl
    | true => exact rev_len (lb_len _ _)
theorem ret_sh {a b : List UInt8 × Int} (h : a = b) : Ending.returned (.tuple #[.agg (List.toArray (bys a.1)), .int .i64 a.2]) = Ending.returned (.tuple #[.agg (List.toArray (bys b.1)), .int .i64 b.2]) := by rw [h]
theorem mulG_2 : mulP 2 Gp = (false, nd 56515219790691171413109057904011688695424810155802929973526481321309856242040, nd 3377031843712258259223711451491452598088675519751548567112458094635497583569) := by
  rw [mulG_out]
  have h := repN_mul 2 2 (GX, GY, 1) gB (by decide) (by
    rw [gB_is]
    show Go.Wei.RepH (fP GX, fP GY, fP 1) _
    rw [show fP 1 = 1 from Go.Wei.fn_one]
    generalize fP GX = a
    generalize fP GY = b
    exact ⟨one_ne, by grind -lia, by grind -lia⟩)
  cases hP : (Go.Wei.Cv.mul 2 gB).1 with
  | O =>
    rw [hP] at h
    have := congrArg Fin.val h.1
    exact absurd this (by decide +kernel)
  | A x y =>
    rw [hP] at h
    obtain ⟨hz, hx, hy⟩ := h
    have e1 : x = fP 56515219790691171413109057904011688695424810155802929973526481321309856242040 := by
      refine Go.Wei.Fld.eq (F := Go.Wei.fldP) hz ?_
      have : fP (mulG 2 2 (GX, GY, 1)).1 = fP 56515219790691171413109057904011688695424810155802929973526481321309856242040 * fP (mulG 2 2 (GX, GY, 1)).2.2 := Fin.ext (by decide +kernel)
      rw [hx] at this
      clear hx hy hP hz
      generalize fP (mulG 2 2 (GX, GY, 1)).2.2 = k at *
      grind -lia
    have e2 : y = fP 3377031843712258259223711451491452598088675519751548567112458094635497583569 := by
      refine Go.Wei.Fld.eq (F := Go.Wei.fldP) hz ?_
      have : fP (mulG 2 2 (GX, GY, 1)).2.1 = fP 3377031843712258259223711451491452598088675519751548567112458094635497583569 * fP (mulG 2 2 (GX, GY, 1)).2.2 := Fin.ext (by decide +kernel)
      rw [hy] at this
      clear hx hy hP hz e1
      generalize fP (mulG 2 2 (GX, GY, 1)).2.2 = k at *
      grind -lia
    rw [e1, e2]
    show (false, nd (56515219790691171413109057904011688695424810155802929973526481321309856242040 % Go.Wei.PP), nd (3377031843712258259223711451491452598088675519751548567112458094635497583569 % Go.Wei.PP)) = _
    rw [Nat.mod_eq_of_lt (by decide), Nat.mod_eq_of_lt (by decide)]
def headL : List UInt8 := [4, 124, 242, 123, 24, 141, 3, 79, 126, 138, 82, 56, 3, 4, 181, 26, 195, 192, 137, 105, 226, 119, 242, 27, 53, 166, 11, 72, 252, 71, 102, 153, 120, 7, 119, 85, 16, 219, 142, 208, 64, 41, 61, 154, 198, 159, 116, 48, 219, 186, 125, 173, 230, 60, 233, 130, 41, 158, 4, 183, 157, 34, 120, 115, 209]
theorem head_enc : encL (mulP (nv [2, 0, 0, 0]) Gp).1 (mulP (nv [2, 0, 0, 0]) Gp).2.1 (mulP (nv [2, 0, 0, 0]) Gp).2.2 = headL := by
  rw [show nv [2, 0, 0, 0] = 2 from rfl, mulG_2]
  decide +kernel

theorem rless3_go (w : World) (a : List UInt64) (ha : List.length a = 4) : Calls Try.prog 42 #[.agg (List.toArray (u64s a)), .agg (List.toArray (u64s (nd (mF 3))))] w fun e w' => e = .returned (.bool (decide (nv a < mF 3))) ∧ Ev w [] w' [] := by
  have h := rless_go w a (nd (mF 3)) ha (nds_len _ _)
  rw [nv_mF] at h
  exact h

theorem may_go (w : World) (d : List UInt64) (hd : List.length d = 4) : Calls Try.prog 51 #[.agg (List.toArray (u64s d))] w fun e w' => e = .returned (.bool (mayN d)) ∧ Ev w [] w' [] := by
 refine d_0 [(0, .agg (List.toArray (u64s d)))] 10 Go.Proofs.Try.func51 Go.Proofs.Try.ntmps51 (Heap.nil _) fun act0 En0 Hv0 => ?_
 refine wp_seq ?_
 refine region_from ?_
 refine f_o ?_
 refine m_m 24 (u64s d) En0 Hv0 fun ac2 wo3 bk1 En4 Hv5 => ?_
 refine d_e [1,2] [] En4 fun ac6 En7 => ?_
 refine then_normal ?_
 refine wp_seq ?_
 refine region_from ?_
 refine f_o ?_
 refine m_a 0 0 4 (u64s d) En7 Hv5 rfl (load_whole (u64s_lenh hd)) (u64s_lenh hd) fun ac8 En9 => ?_
 refine d_k [1,2,3,4] [] 2 En9 fun ac10 En11 => ?_
 refine f_o ?_
 refine q_v (x := eqOp .neq 24 (.tmp 3) (.tmp 4) (.agg (List.toArray (u64s d))) (.agg (List.toArray (u64s ([0, 0, 0, 0] : List UInt64))))) (v := .bool (!(d == ([0, 0, 0, 0] : List UInt64)))) En11 (Go.Dbr.u64s_neop (a := (.tmp 3)) (b := (.tmp 4)) (e := 22) (m := 4) (by kernel_rfl) (by kernel_rfl) (by kernel_rfl) (by kernel_rfl) (by kernel_rfl) hd (show List.length ([0, 0, 0, 0] : List UInt64) = 4 from rfl) _) fun ac12 En13 => ?_
 refine d_k [1,2,6] [] 4 En13 fun ac14 En15 => ?_
 rcases Bool.eq_false_or_eq_true (!(d == ([0, 0, 0, 0] : List UInt64))) with hb16 | hb16
 ·
  have En17 := En15.fx (t := 6) (congrArg Value.bool hb16)
  have hp18 : ¬ (d = ([0, 0, 0, 0] : List UInt64)) := by simpa using hb16
  refine f_o ?_
  refine m_a 0 0 4 (u64s d) En17 Hv5 rfl (load_whole (u64s_lenh hd)) (u64s_lenh hd) fun ac19 En20 => ?_
  refine f_o ?_
  refine c_p En20 Hv5 (rightq_go _ 3 d hd) fun ac25 wo22 En26 Hv27 => ?_
  refine d_e [2] [] En26 fun ac28 En29 => ?_
  refine then_normal ?_
  refine wp_ret ?_
  refine d_ret1 (t := 2) (v := .bool (decide (nv d < mF 3))) En29 (by kernel_rfl) (by kernel_rfl) ?_
  exact ⟨congrArg (fun b => Ending.returned (Value.bool b)) (may_rest (by first | assumption | simpa using hp18)), Hv27.pk []⟩
 ·
  have En30 := En15.fx (t := 6) (congrArg Value.bool hb16)
  have hp31 : d = ([0, 0, 0, 0] : List UInt64) := by simpa using hb16
  refine d_e [2] [] En30 fun ac32 En33 => ?_
  refine then_normal ?_
  refine wp_ret ?_
  refine d_ret1 (t := 2) (v := .bool false) En33 (by kernel_rfl) (by kernel_rfl) ?_
  exact ⟨congrArg (fun b => Ending.returned (Value.bool b)) (may_no1 (by first | assumption | simpa using hp31)), Hv5.pk []⟩

theorem dmay_go (w : World) (d : List UInt64) (hd : List.length d = 4) : Calls Try.prog 53 #[.agg (List.toArray (u64s d))] w fun e w' => e = .returned (.bool (mayN d)) ∧ Ev w [] w' [] := by
 refine d_0 [(0, .agg (List.toArray (u64s d)))] 11 Go.Proofs.Try.func53 Go.Proofs.Try.ntmps53 (Heap.nil _) fun act0 En0 Hv0 => ?_
 refine wp_seq ?_
 refine region_from ?_
 refine f_o ?_
 refine m_m 24 (u64s d) En0 Hv0 fun ac2 wo3 bk1 En4 Hv5 => ?_
 refine d_e [1,2] [] En4 fun ac6 En7 => ?_
 refine then_normal ?_
 refine wp_seq ?_
 rcases Bool.eq_false_or_eq_true (!(d == ([0, 0, 0, 0] : List UInt64))) with hb8 | hb8
 ·
  have hb8p : ¬ (d = ([0, 0, 0, 0] : List UInt64)) := by simpa using hb8
  refine r_c (fun ac wo => Env ac 11 [(2, .bool (decide (nv d < mF 3)))] ∧ Ev w [] wo []) ?_ ?_
  ·
   refine h_s (fun wv => Ev w [] wv [.box bk1 (u64s d) 24]) [] 9 ?_
   have wo9 := Hv5.trans (Ev.drew Hv5.heap)
   refine q_r 0 (s := Instr.loadAt 24 (pt bk1)) (v := .agg (List.toArray (u64s d))) En7 (fun w hS => run_loadAgg2 (m := 4) (cs := u64s d) (u64s_lenh hd) (by kernel_rfl) (by kernel_rfl) (hS.heap.cells (k := 0) (off := 0) (m := 4) rfl (load_whole (u64s_lenh hd)))) (wo9.pk [0]) fun ac84 En85 => ?_
   refine q_s [1] [] 7 En85 (wo9.pk [0]) fun ac86 En87 => ?_
   refine q_f 2 (s := eqOp .neq 24 (.tmp 3) (.tmp 4) (.agg (List.toArray (u64s d))) (.agg (List.toArray (u64s ([0, 0, 0, 0] : List UInt64))))) (v := .bool (!(d == ([0, 0, 0, 0] : List UInt64)))) En87 (fun _ => Go.Dbr.u64s_neop (a := (.tmp 3)) (b := (.tmp 4)) (e := 22) (m := 4) (by kernel_rfl) (by kernel_rfl) (by kernel_rfl) (by kernel_rfl) (by kernel_rfl) hd (show List.length ([0, 0, 0, 0] : List UInt64) = 4 from rfl) _) (fun _ => wo9.pk [0]) fun ac88 En89 => ?_
   refine q_s [3] [] 5 En89 (wo9.pk [0]) fun ac90 En91 => ?_
   have En92 := En91.fx (t := 5) (congrArg Value.bool hb8)
   have En93 := En92.fx (t := 6) (congrArg Value.bool hb8)
   refine q_r 4 (s := Instr.loadAt 24 (pt bk1)) (v := .agg (List.toArray (u64s d))) En93 (fun w hS => run_loadAgg2 (m := 4) (cs := u64s d) (u64s_lenh hd) (by kernel_rfl) (by kernel_rfl) (hS.heap.cells (k := 0) (off := 0) (m := 4) rfl (load_whole (u64s_lenh hd)))) (wo9.pk [0]) fun ac94 En95 => ?_
   refine q_t 5 ?_
   refine c_p En95 wo9 (rmodulus_go _ 3) fun ac100 wo97 En101 Hv102 => ?_
   refine ⟨fun _ => Hv102.pk [0], ?_⟩
   refine q_t 6 ?_
   refine c_p En101 Hv102 (rless3_go _ d hd) fun ac107 wo104 En108 Hv109 => ?_
   refine ⟨fun _ => Hv109.pk [0], ?_⟩
   refine q_s [7,8] [] 0 En108 (Hv109.pk [0]) fun ac110 En111 => ?_
   exact h_e ⟨En111.sb, Hv109.pk []⟩
  rintro ac112 wo113 ⟨En114, Hv115⟩
  refine then_normal ?_
  refine wp_ret ?_
  refine d_ret1 (t := 2) (v := .bool (decide (nv d < mF 3))) En114 (by kernel_rfl) (by kernel_rfl) ?_
  exact ⟨congrArg (fun b => Ending.returned (Value.bool b)) (may_rest (by first | assumption | simpa using hb8)), Hv115.pk []⟩
 ·
  have hb8p : d = ([0, 0, 0, 0] : List UInt64) := by simpa using hb8
  refine r_c (fun ac wo => Env ac 11 [(2, .bool false)] ∧ Ev w [] wo []) ?_ ?_
  ·
   refine draw_any (by kernel_rfl) 9 (by kernel_rfl) ?_
   have wo116 := Hv5.trans (Ev.drew Hv5.heap)
   refine q_a [1] [] 8 En7 fun ac129 En130 => ?_
   refine q_u 0 ?_
   refine m_a 0 0 4 (u64s d) En130 wo116 rfl (load_whole (u64s_lenh hd)) (u64s_lenh hd) fun ac131 En132 => ?_
   refine q_g 2 (s := eqOp .neq 24 (.tmp 3) (.tmp 4) (.agg (List.toArray (u64s d))) (.agg (List.toArray (u64s ([0, 0, 0, 0] : List UInt64))))) (v := .bool (!(d == ([0, 0, 0, 0] : List UInt64)))) En132 (fun _ => Go.Dbr.u64s_neop (a := (.tmp 3)) (b := (.tmp 4)) (e := 22) (m := 4) (by kernel_rfl) (by kernel_rfl) (by kernel_rfl) (by kernel_rfl) (by kernel_rfl) hd (show List.length ([0, 0, 0, 0] : List UInt64) = 4 from rfl) _) fun ac133 En134 => ?_
   refine q_a [3] [] 5 En134 fun ac135 En136 => ?_
   have En137 := En136.fx (t := 5) (congrArg Value.bool hb8)
   have En138 := En137.fx (t := 6) (congrArg Value.bool hb8)
   refine q_a [4,5,6,7,8] [] 0 En138 fun ac139 En140 => ?_
   exact a_e ⟨En140.sb, wo116.pk []⟩
  rintro ac141 wo142 ⟨En143, Hv144⟩
  refine then_normal ?_
  refine wp_ret ?_
  refine d_ret1 (t := 2) (v := .bool false) En143 (by kernel_rfl) (by kernel_rfl) ?_
  exact ⟨congrArg (fun b => Ending.returned (Value.bool b)) (may_no1 (by first | assumption | simpa using hb8)), Hv144.pk []⟩

theorem shared_go (w : World) (d : List UInt64) (hd : List.length d = 4) (z : Bool) (x y : List UInt64) (hx : List.length x = 4) (hy : List.length y = 4) : Calls Try.prog 22 #[.agg (List.toArray (u64s d)), .agg (List.toArray (([.bool z] : List Value) ++ ((u64s x) ++ (u64s y))))] w fun e w' => e = .returned (.tuple #[.agg (List.toArray (bys ((shN d (z, x, y)).1))), .int .i64 ((shN d (z, x, y)).2)]) ∧ Ev w [] w' [] := by
 refine d_0 [(0, .agg (List.toArray (u64s d))), (1, .agg (List.toArray (([.bool z] : List Value) ++ ((u64s x) ++ (u64s y)))))] 25 Go.Proofs.Try.func22 Go.Proofs.Try.ntmps22 (Heap.nil _) fun act0 En0 Hv0 => ?_
 refine wp_seq ?_
 refine region_from ?_
 refine f_o ?_
 refine m_m 24 (u64s d) En0 Hv0 fun ac2 wo3 bk1 En4 Hv5 => ?_
 refine f_o ?_
 refine m_m 26 (([.bool z] : List Value) ++ ((u64s x) ++ (u64s y))) En4 Hv5 fun ac7 wo8 bk6 En9 Hv10 => ?_
 refine f_o ?_
 refine m_z 41 (bys (List.replicate 32 0)) En9 Hv10 fun ac12 wo13 bk11 En14 Hv15 => ?_
 refine d_e [2,3,4,5] [] En14 fun ac16 En17 => ?_
 refine then_normal ?_
 refine wp_seq ?_
 refine wp_block ?_
 refine wp_seq ?_
 refine region_from ?_
 refine f_o ?_
 refine m_a 0 0 4 (u64s d) En17 Hv15 rfl (load_whole (u64s_lenh hd)) (u64s_lenh hd) fun ac18 En19 => ?_
 refine f_o ?_
 refine c_p En19 Hv15 (may_go _ d hd) fun ac24 wo21 En25 Hv26 => ?_
 refine d_e [2,3,4,5,6] [] En25 fun ac27 En28 => ?_
 refine then_normal ?_
 refine cond_at En28 (t := !(mayN d)) (by kernel_rfl) (fun hc29 => ?_) (fun hc29 => ?_)
 ·
  replace hc29 : ¬ (mayN d = true) := by simpa using hc29
  refine wp_seq ?_
  refine region_from ?_
  refine d_k [2,3,4,5,10] [] 1 En28 fun ac30 En31 => ?_
  refine f_o ?_
  refine m_g 2 0 32 (bys ([0, 0, 0, 0, 0, 0, 0, 0, 0, 0, 0, 0, 0, 0, 0, 0, 0, 0, 0, 0, 0, 0, 0, 0, 0, 0, 0, 0, 0, 0, 0, 0] : List UInt8)) (bys ([0, 0, 0, 0, 0, 0, 0, 0, 0, 0, 0, 0, 0, 0, 0, 0, 0, 0, 0, 0, 0, 0, 0, 0, 0, 0, 0, 0, 0, 0, 0, 0] : List UInt8)) [.box bk1 (u64s d) 24, .box bk6 (([.bool z] : List Value) ++ ((u64s x) ++ (u64s y))) 26, .box bk11 (bys ([0, 0, 0, 0, 0, 0, 0, 0, 0, 0, 0, 0, 0, 0, 0, 0, 0, 0, 0, 0, 0, 0, 0, 0, 0, 0, 0, 0, 0, 0, 0, 0] : List UInt8)) 41] En31 Hv26 rfl (bys_lenh (show List.length ([0, 0, 0, 0, 0, 0, 0, 0, 0, 0, 0, 0, 0, 0, 0, 0, 0, 0, 0, 0, 0, 0, 0, 0, 0, 0, 0, 0, 0, 0, 0, 0] : List UInt8) = 32 from rfl)) (by rw [(bys_lenh (List.length_replicate))]; decide) (bys_one _) (store_whole (bys_lenh (List.length_replicate))) rfl fun ac32 wo33 En34 Hv35 => ?_
  refine d_e [2,3,4,5] [] En34 fun ac36 En37 => ?_
  refine then_normal ?_
  refine wp_ret ?_
  refine block_ret ?_
  refine then_ret ?_
  refine d_cell_tmp (v := .agg (List.toArray (bys ([0, 0, 0, 0, 0, 0, 0, 0, 0, 0, 0, 0, 0, 0, 0, 0, 0, 0, 0, 0, 0, 0, 0, 0, 0, 0, 0, 0, 0, 0, 0, 0] : List UInt8)))) (x := .int .i64 132) (t := 4) (T := 41) (ad := ⟨bk11, 0, none⟩) (u := 5) En37 (by kernel_rfl) (by kernel_rfl) (Ev.cellAgg (t := 41) (k := 2) (off := 0) (m := 32) (xs := bys ([0, 0, 0, 0, 0, 0, 0, 0, 0, 0, 0, 0, 0, 0, 0, 0, 0, 0, 0, 0, 0, 0, 0, 0, 0, 0, 0, 0, 0, 0, 0, 0] : List UInt8)) Hv35 rfl (load_whole (bys_lenh (show List.length ([0, 0, 0, 0, 0, 0, 0, 0, 0, 0, 0, 0, 0, 0, 0, 0, 0, 0, 0, 0, 0, 0, 0, 0, 0, 0, 0, 0, 0, 0, 0, 0] : List UInt8) = 32 from rfl))) (bys_lenh (show List.length ([0, 0, 0, 0, 0, 0, 0, 0, 0, 0, 0, 0, 0, 0, 0, 0, 0, 0, 0, 0, 0, 0, 0, 0, 0, 0, 0, 0, 0, 0, 0, 0] : List UInt8) = 32 from rfl)) (by kernel_rfl) (by kernel_rfl)) (by kernel_rfl) ?_
  exact ⟨ret_sh (b := shN d (z, x, y)) (sh_no1 (by assumption)), Hv35.pk []⟩
 ·
  replace hc29 : mayN d = true := by simpa using hc29
  refine wp_seq ?_
  refine region_from ?_
  refine d_k [2,3,4,5,12] [] 1 En28 fun ac38 En39 => ?_
  refine f_o ?_
  refine m_v 1 0 (.bool z) En39 Hv26 rfl (seg_in rfl) fun ac40 En41 => ?_
  refine d_k [2,3,4,5,14] [] 3 En41 fun ac42 En43 => ?_
  rcases Bool.eq_false_or_eq_true (z) with hb44 | hb44
  ·
   have En45 := En43.fx (t := 14) (congrArg Value.bool hb44)
   have hp46 : z = true := hb44
   refine d_e [2,3,4,5,11] [] En45 fun ac47 En48 => ?_
   refine then_normal ?_
   refine c_t En48 ?_
   refine wp_seq ?_
   refine region_from ?_
   refine d_k [2,3,4,5,19] [] 1 En48 fun ac49 En50 => ?_
   refine f_o ?_
   refine m_g 2 0 32 (bys ([0, 0, 0, 0, 0, 0, 0, 0, 0, 0, 0, 0, 0, 0, 0, 0, 0, 0, 0, 0, 0, 0, 0, 0, 0, 0, 0, 0, 0, 0, 0, 0] : List UInt8)) (bys ([0, 0, 0, 0, 0, 0, 0, 0, 0, 0, 0, 0, 0, 0, 0, 0, 0, 0, 0, 0, 0, 0, 0, 0, 0, 0, 0, 0, 0, 0, 0, 0] : List UInt8)) [.box bk1 (u64s d) 24, .box bk6 (([.bool z] : List Value) ++ ((u64s x) ++ (u64s y))) 26, .box bk11 (bys ([0, 0, 0, 0, 0, 0, 0, 0, 0, 0, 0, 0, 0, 0, 0, 0, 0, 0, 0, 0, 0, 0, 0, 0, 0, 0, 0, 0, 0, 0, 0, 0] : List UInt8)) 41] En50 Hv26 rfl (bys_lenh (show List.length ([0, 0, 0, 0, 0, 0, 0, 0, 0, 0, 0, 0, 0, 0, 0, 0, 0, 0, 0, 0, 0, 0, 0, 0, 0, 0, 0, 0, 0, 0, 0, 0] : List UInt8) = 32 from rfl)) (by rw [(bys_lenh (List.length_replicate))]; decide) (bys_one _) (store_whole (bys_lenh (List.length_replicate))) rfl fun ac51 wo52 En53 Hv54 => ?_
   refine d_e [2,3,4,5] [] En53 fun ac55 En56 => ?_
   refine then_normal ?_
   refine wp_ret ?_
   refine block_ret ?_
   refine then_ret ?_
   refine d_cell_tmp (v := .agg (List.toArray (bys ([0, 0, 0, 0, 0, 0, 0, 0, 0, 0, 0, 0, 0, 0, 0, 0, 0, 0, 0, 0, 0, 0, 0, 0, 0, 0, 0, 0, 0, 0, 0, 0] : List UInt8)))) (x := .int .i64 131) (t := 4) (T := 41) (ad := ⟨bk11, 0, none⟩) (u := 5) En56 (by kernel_rfl) (by kernel_rfl) (Ev.cellAgg (t := 41) (k := 2) (off := 0) (m := 32) (xs := bys ([0, 0, 0, 0, 0, 0, 0, 0, 0, 0, 0, 0, 0, 0, 0, 0, 0, 0, 0, 0, 0, 0, 0, 0, 0, 0, 0, 0, 0, 0, 0, 0] : List UInt8)) Hv54 rfl (load_whole (bys_lenh (show List.length ([0, 0, 0, 0, 0, 0, 0, 0, 0, 0, 0, 0, 0, 0, 0, 0, 0, 0, 0, 0, 0, 0, 0, 0, 0, 0, 0, 0, 0, 0, 0, 0] : List UInt8) = 32 from rfl))) (bys_lenh (show List.length ([0, 0, 0, 0, 0, 0, 0, 0, 0, 0, 0, 0, 0, 0, 0, 0, 0, 0, 0, 0, 0, 0, 0, 0, 0, 0, 0, 0, 0, 0, 0, 0] : List UInt8) = 32 from rfl)) (by kernel_rfl) (by kernel_rfl)) (by kernel_rfl) ?_
   exact ⟨ret_sh (b := shN d (z, x, y)) ((by first | exact sh_no2 (by assumption) (by assumption) | exact sh_no3 (by assumption) (by assumption))), Hv54.pk []⟩
  ·
   have En57 := En43.fx (t := 14) (congrArg Value.bool hb44)
   have hp58 : ¬ (z = true) := Bool.eq_false_iff.1 hb44
   refine f_o ?_
   refine m_a 1 0 9 (([.bool z] : List Value) ++ ((u64s x) ++ (u64s y))) En57 Hv26 rfl (load_whole (len_app rfl (len_app (u64s_lenh hx) (u64s_lenh hy)))) (len_app rfl (len_app (u64s_lenh hx) (u64s_lenh hy))) fun ac59 En60 => ?_
   refine f_o ?_
   refine c_p En60 Hv26 (on_go _ z x y hx hy) fun ac65 wo62 En66 Hv67 => ?_
   refine d_e [2,3,4,5,11] [] En66 fun ac68 En69 => ?_
   refine then_normal ?_
   refine cond_at En69 (t := !(onN z x y)) (by kernel_rfl) (fun hc70 => ?_) (fun hc70 => ?_)
   ·
    replace hc70 : ¬ (onN z x y = true) := by simpa using hc70
    refine wp_seq ?_
    refine region_from ?_
    refine d_k [2,3,4,5,19] [] 1 En69 fun ac71 En72 => ?_
    refine f_o ?_
    refine m_g 2 0 32 (bys ([0, 0, 0, 0, 0, 0, 0, 0, 0, 0, 0, 0, 0, 0, 0, 0, 0, 0, 0, 0, 0, 0, 0, 0, 0, 0, 0, 0, 0, 0, 0, 0] : List UInt8)) (bys ([0, 0, 0, 0, 0, 0, 0, 0, 0, 0, 0, 0, 0, 0, 0, 0, 0, 0, 0, 0, 0, 0, 0, 0, 0, 0, 0, 0, 0, 0, 0, 0] : List UInt8)) [.box bk1 (u64s d) 24, .box bk6 (([.bool z] : List Value) ++ ((u64s x) ++ (u64s y))) 26, .box bk11 (bys ([0, 0, 0, 0, 0, 0, 0, 0, 0, 0, 0, 0, 0, 0, 0, 0, 0, 0, 0, 0, 0, 0, 0, 0, 0, 0, 0, 0, 0, 0, 0, 0] : List UInt8)) 41] En72 Hv67 rfl (bys_lenh (show List.length ([0, 0, 0, 0, 0, 0, 0, 0, 0, 0, 0, 0, 0, 0, 0, 0, 0, 0, 0, 0, 0, 0, 0, 0, 0, 0, 0, 0, 0, 0, 0, 0] : List UInt8) = 32 from rfl)) (by rw [(bys_lenh (List.length_replicate))]; decide) (bys_one _) (store_whole (bys_lenh (List.length_replicate))) rfl fun ac73 wo74 En75 Hv76 => ?_
    refine d_e [2,3,4,5] [] En75 fun ac77 En78 => ?_
    refine then_normal ?_
    refine wp_ret ?_
    refine block_ret ?_
    refine then_ret ?_
    refine d_cell_tmp (v := .agg (List.toArray (bys ([0, 0, 0, 0, 0, 0, 0, 0, 0, 0, 0, 0, 0, 0, 0, 0, 0, 0, 0, 0, 0, 0, 0, 0, 0, 0, 0, 0, 0, 0, 0, 0] : List UInt8)))) (x := .int .i64 131) (t := 4) (T := 41) (ad := ⟨bk11, 0, none⟩) (u := 5) En78 (by kernel_rfl) (by kernel_rfl) (Ev.cellAgg (t := 41) (k := 2) (off := 0) (m := 32) (xs := bys ([0, 0, 0, 0, 0, 0, 0, 0, 0, 0, 0, 0, 0, 0, 0, 0, 0, 0, 0, 0, 0, 0, 0, 0, 0, 0, 0, 0, 0, 0, 0, 0] : List UInt8)) Hv76 rfl (load_whole (bys_lenh (show List.length ([0, 0, 0, 0, 0, 0, 0, 0, 0, 0, 0, 0, 0, 0, 0, 0, 0, 0, 0, 0, 0, 0, 0, 0, 0, 0, 0, 0, 0, 0, 0, 0] : List UInt8) = 32 from rfl))) (bys_lenh (show List.length ([0, 0, 0, 0, 0, 0, 0, 0, 0, 0, 0, 0, 0, 0, 0, 0, 0, 0, 0, 0, 0, 0, 0, 0, 0, 0, 0, 0, 0, 0, 0, 0] : List UInt8) = 32 from rfl)) (by kernel_rfl) (by kernel_rfl)) (by kernel_rfl) ?_
    exact ⟨ret_sh (b := shN d (z, x, y)) ((by first | exact sh_no2 (by assumption) (by assumption) | exact sh_no3 (by assumption) (by assumption))), Hv76.pk []⟩
   ·
    replace hc70 : onN z x y = true := by simpa using hc70
    refine wp_skip ?_
    refine block_normal ?_
    refine then_normal ?_
    refine wp_seq ?_
    refine region_from ?_
    refine f_o ?_
    refine m_a 0 0 4 (u64s d) En69 Hv67 rfl (load_whole (u64s_lenh hd)) (u64s_lenh hd) fun ac79 En80 => ?_
    refine f_o ?_
    refine m_a 1 0 9 (([.bool z] : List Value) ++ ((u64s x) ++ (u64s y))) En80 Hv67 rfl (load_whole (len_app rfl (len_app (u64s_lenh hx) (u64s_lenh hy)))) (len_app rfl (len_app (u64s_lenh hx) (u64s_lenh hy))) fun ac81 En82 => ?_
    refine f_o ?_
    refine c_p En82 Hv67 (pmult_go _ d hd z x y hx hy) fun ac87 wo84 En88 Hv89 => ?_
    refine f_o ?_
    refine q_v (x := Instr.field 26 (.agg (List.toArray (([.bool ((mulP (nv d) (z, x, y)).1)] : List Value) ++ ((u64s ((mulP (nv d) (z, x, y)).2.1)) ++ (u64s ((mulP (nv d) (z, x, y)).2.2)))))) 1) (v := .agg (List.toArray (u64s ((mulP (nv d) (z, x, y)).2.1)))) En88 (Go.Dbr.pnt_field1 isP (mulP_len _ _).1 (mulP_len _ _).2 _) fun ac90 En91 => ?_
    refine f_o ?_
    refine c_p En91 Hv89 (tobe_go _ ((mulP (nv d) (z, x, y)).2.1) (mulP_len _ _).1) fun ac96 wo93 En97 Hv98 => ?_
    refine f_o ?_
    refine m_g 2 0 32 (bys (List.reverse (lb 32 (nv ((mulP (nv d) (z, x, y)).2.1))))) (bys (List.reverse (lb 32 (nv ((mulP (nv d) (z, x, y)).2.1))))) [.box bk1 (u64s d) 24, .box bk6 (([.bool z] : List Value) ++ ((u64s x) ++ (u64s y))) 26, .box bk11 (bys (List.reverse (lb 32 (nv ((mulP (nv d) (z, x, y)).2.1))))) 41] En97 Hv98 rfl (bys_lenh (rev_len (lb_len _ _))) (by rw [(bys_lenh (List.length_replicate))]; decide) (bys_one _) (store_whole (bys_lenh (List.length_replicate))) rfl fun ac99 wo100 En101 Hv102 => ?_
    refine d_e [2,3,4,5] [] En101 fun ac103 En104 => ?_
    refine then_normal ?_
    refine wp_ret ?_
    refine d_cell_tmp (v := .agg (List.toArray (bys (List.reverse (lb 32 (nv ((mulP (nv d) (z, x, y)).2.1))))))) (x := .int .i64 0) (t := 4) (T := 41) (ad := ⟨bk11, 0, none⟩) (u := 5) En104 (by kernel_rfl) (by kernel_rfl) (Ev.cellAgg (t := 41) (k := 2) (off := 0) (m := 32) (xs := bys (List.reverse (lb 32 (nv ((mulP (nv d) (z, x, y)).2.1))))) Hv102 rfl (load_whole (bys_lenh (rev_len (lb_len _ _)))) (bys_lenh (rev_len (lb_len _ _))) (by kernel_rfl) (by kernel_rfl)) (by kernel_rfl) ?_
    exact ⟨ret_sh (b := shN d (z, x, y)) (sh_yes (by assumption) (by assumption) (by assumption)), Hv102.pk []⟩

theorem dshared_go (w : World) (d : List UInt64) (hd : List.length d = 4) (z : Bool) (x y : List UInt64) (hx : List.length x = 4) (hy : List.length y = 4) : Calls Try.prog 23 #[.agg (List.toArray (u64s d)), .agg (List.toArray (([.bool z] : List Value) ++ ((u64s x) ++ (u64s y))))] w fun e w' => e = .returned (.tuple #[.agg (List.toArray (bys ((shN d (z, x, y)).1))), .int .i64 ((shN d (z, x, y)).2)]) ∧ Ev w [] w' [] := by
 refine d_0 [(0, .agg (List.toArray (u64s d))), (1, .agg (List.toArray (([.bool z] : List Value) ++ ((u64s x) ++ (u64s y)))))] 27 Go.Proofs.Try.func23 Go.Proofs.Try.ntmps23 (Heap.nil _) fun act0 En0 Hv0 => ?_
 refine wp_seq ?_
 refine region_from ?_
 refine f_o ?_
 refine m_m 24 (u64s d) En0 Hv0 fun ac2 wo3 bk1 En4 Hv5 => ?_
 refine f_o ?_
 refine m_m 26 (([.bool z] : List Value) ++ ((u64s x) ++ (u64s y))) En4 Hv5 fun ac7 wo8 bk6 En9 Hv10 => ?_
 refine f_o ?_
 refine m_z 41 (bys (List.replicate 32 0)) En9 Hv10 fun ac12 wo13 bk11 En14 Hv15 => ?_
 refine d_e [2,3,4,5] [] En14 fun ac16 En17 => ?_
 refine then_normal ?_
 refine wp_seq ?_
 refine region_from ?_
 refine f_o ?_
 refine m_a 0 0 4 (u64s d) En17 Hv15 rfl (load_whole (u64s_lenh hd)) (u64s_lenh hd) fun ac18 En19 => ?_
 refine f_o ?_
 refine c_p En19 Hv15 (dmay_go _ d hd) fun ac24 wo21 En25 Hv26 => ?_
 refine d_e [2,3,4,5,6] [] En25 fun ac27 En28 => ?_
 refine then_normal ?_
 refine wp_seq ?_
 refine region_from ?_
 refine f_o ?_
 refine m_a 1 0 9 (([.bool z] : List Value) ++ ((u64s x) ++ (u64s y))) En28 Hv26 rfl (load_whole (len_app rfl (len_app (u64s_lenh hx) (u64s_lenh hy)))) (len_app rfl (len_app (u64s_lenh hx) (u64s_lenh hy))) fun ac29 En30 => ?_
 refine f_o ?_
 refine c_p En30 Hv26 (don_go _ z x y hx hy) fun ac35 wo32 En36 Hv37 => ?_
 refine d_e [2,3,4,5,6,7] [] En36 fun ac38 En39 => ?_
 refine then_normal ?_
 refine wp_seq ?_
 refine d_s [2,3,4,5,7,13] [] En39 fun ac40 En41 => ?_
 refine cond_at En41 (t := !(mayN d)) (by kernel_rfl) (fun hc42 => ?_) (fun hc42 => ?_)
 ·
  replace hc42 : ¬ (mayN d = true) := by simpa using hc42
  refine wp_seq ?_
  refine region_from ?_
  refine d_k [2,3,4,5,7,14] [] 1 En41 fun ac43 En44 => ?_
  refine f_o ?_
  refine m_g 2 0 32 (bys ([0, 0, 0, 0, 0, 0, 0, 0, 0, 0, 0, 0, 0, 0, 0, 0, 0, 0, 0, 0, 0, 0, 0, 0, 0, 0, 0, 0, 0, 0, 0, 0] : List UInt8)) (bys ([0, 0, 0, 0, 0, 0, 0, 0, 0, 0, 0, 0, 0, 0, 0, 0, 0, 0, 0, 0, 0, 0, 0, 0, 0, 0, 0, 0, 0, 0, 0, 0] : List UInt8)) [.box bk1 (u64s d) 24, .box bk6 (([.bool z] : List Value) ++ ((u64s x) ++ (u64s y))) 26, .box bk11 (bys ([0, 0, 0, 0, 0, 0, 0, 0, 0, 0, 0, 0, 0, 0, 0, 0, 0, 0, 0, 0, 0, 0, 0, 0, 0, 0, 0, 0, 0, 0, 0, 0] : List UInt8)) 41] En44 Hv37 rfl (bys_lenh (show List.length ([0, 0, 0, 0, 0, 0, 0, 0, 0, 0, 0, 0, 0, 0, 0, 0, 0, 0, 0, 0, 0, 0, 0, 0, 0, 0, 0, 0, 0, 0, 0, 0] : List UInt8) = 32 from rfl)) (by rw [(bys_lenh (List.length_replicate))]; decide) (bys_one _) (store_whole (bys_lenh (List.length_replicate))) rfl fun ac45 wo46 En47 Hv48 => ?_
  refine d_e [2,3,4,5,7] [] En47 fun ac49 En50 => ?_
  refine then_normal ?_
  refine wp_ret ?_
  refine then_ret ?_
  refine d_cell_tmp (v := .agg (List.toArray (bys ([0, 0, 0, 0, 0, 0, 0, 0, 0, 0, 0, 0, 0, 0, 0, 0, 0, 0, 0, 0, 0, 0, 0, 0, 0, 0, 0, 0, 0, 0, 0, 0] : List UInt8)))) (x := .int .i64 132) (t := 4) (T := 41) (ad := ⟨bk11, 0, none⟩) (u := 5) En50 (by kernel_rfl) (by kernel_rfl) (Ev.cellAgg (t := 41) (k := 2) (off := 0) (m := 32) (xs := bys ([0, 0, 0, 0, 0, 0, 0, 0, 0, 0, 0, 0, 0, 0, 0, 0, 0, 0, 0, 0, 0, 0, 0, 0, 0, 0, 0, 0, 0, 0, 0, 0] : List UInt8)) Hv48 rfl (load_whole (bys_lenh (show List.length ([0, 0, 0, 0, 0, 0, 0, 0, 0, 0, 0, 0, 0, 0, 0, 0, 0, 0, 0, 0, 0, 0, 0, 0, 0, 0, 0, 0, 0, 0, 0, 0] : List UInt8) = 32 from rfl))) (bys_lenh (show List.length ([0, 0, 0, 0, 0, 0, 0, 0, 0, 0, 0, 0, 0, 0, 0, 0, 0, 0, 0, 0, 0, 0, 0, 0, 0, 0, 0, 0, 0, 0, 0, 0] : List UInt8) = 32 from rfl)) (by kernel_rfl) (by kernel_rfl)) (by kernel_rfl) ?_
  exact ⟨ret_sh (b := shN d (z, x, y)) (sh_no1 (by assumption)), Hv48.pk []⟩
 ·
  replace hc42 : mayN d = true := by simpa using hc42
  refine wp_skip ?_
  refine then_normal ?_
  refine wp_seq ?_
  refine wp_seq ?_
  refine region_from ?_
  refine d_k [2,3,4,5,17] [] 3 En41 fun ac51 En52 => ?_
  rcases Bool.eq_false_or_eq_true (!(onN z x y)) with hb53 | hb53
  ·
   have En54 := En52.fx (t := 17) (congrArg Value.bool hb53)
   have hp55 : ¬ (onN z x y = true) := by simpa using hb53
   refine d_e [2,3,4,5,20] [] En54 fun ac56 En57 => ?_
   refine then_normal ?_
   refine c_t En57 ?_
   refine wp_seq ?_
   refine region_from ?_
   refine d_k [2,3,4,5,21] [] 1 En57 fun ac58 En59 => ?_
   refine f_o ?_
   refine m_g 2 0 32 (bys ([0, 0, 0, 0, 0, 0, 0, 0, 0, 0, 0, 0, 0, 0, 0, 0, 0, 0, 0, 0, 0, 0, 0, 0, 0, 0, 0, 0, 0, 0, 0, 0] : List UInt8)) (bys ([0, 0, 0, 0, 0, 0, 0, 0, 0, 0, 0, 0, 0, 0, 0, 0, 0, 0, 0, 0, 0, 0, 0, 0, 0, 0, 0, 0, 0, 0, 0, 0] : List UInt8)) [.box bk1 (u64s d) 24, .box bk6 (([.bool z] : List Value) ++ ((u64s x) ++ (u64s y))) 26, .box bk11 (bys ([0, 0, 0, 0, 0, 0, 0, 0, 0, 0, 0, 0, 0, 0, 0, 0, 0, 0, 0, 0, 0, 0, 0, 0, 0, 0, 0, 0, 0, 0, 0, 0] : List UInt8)) 41] En59 Hv37 rfl (bys_lenh (show List.length ([0, 0, 0, 0, 0, 0, 0, 0, 0, 0, 0, 0, 0, 0, 0, 0, 0, 0, 0, 0, 0, 0, 0, 0, 0, 0, 0, 0, 0, 0, 0, 0] : List UInt8) = 32 from rfl)) (by rw [(bys_lenh (List.length_replicate))]; decide) (bys_one _) (store_whole (bys_lenh (List.length_replicate))) rfl fun ac60 wo61 En62 Hv63 => ?_
   refine d_e [2,3,4,5] [] En62 fun ac64 En65 => ?_
   refine then_normal ?_
   refine wp_ret ?_
   refine then_ret ?_
   refine d_cell_tmp (v := .agg (List.toArray (bys ([0, 0, 0, 0, 0, 0, 0, 0, 0, 0, 0, 0, 0, 0, 0, 0, 0, 0, 0, 0, 0, 0, 0, 0, 0, 0, 0, 0, 0, 0, 0, 0] : List UInt8)))) (x := .int .i64 131) (t := 4) (T := 41) (ad := ⟨bk11, 0, none⟩) (u := 5) En65 (by kernel_rfl) (by kernel_rfl) (Ev.cellAgg (t := 41) (k := 2) (off := 0) (m := 32) (xs := bys ([0, 0, 0, 0, 0, 0, 0, 0, 0, 0, 0, 0, 0, 0, 0, 0, 0, 0, 0, 0, 0, 0, 0, 0, 0, 0, 0, 0, 0, 0, 0, 0] : List UInt8)) Hv63 rfl (load_whole (bys_lenh (show List.length ([0, 0, 0, 0, 0, 0, 0, 0, 0, 0, 0, 0, 0, 0, 0, 0, 0, 0, 0, 0, 0, 0, 0, 0, 0, 0, 0, 0, 0, 0, 0, 0] : List UInt8) = 32 from rfl))) (bys_lenh (show List.length ([0, 0, 0, 0, 0, 0, 0, 0, 0, 0, 0, 0, 0, 0, 0, 0, 0, 0, 0, 0, 0, 0, 0, 0, 0, 0, 0, 0, 0, 0, 0, 0] : List UInt8) = 32 from rfl)) (by kernel_rfl) (by kernel_rfl)) (by kernel_rfl) ?_
   exact ⟨ret_sh (b := shN d (z, x, y)) ((by first | exact sh_no2 (by assumption) (by assumption) | exact sh_no3 (by assumption) (by assumption))), Hv63.pk []⟩
  ·
   have En66 := En52.fx (t := 17) (congrArg Value.bool hb53)
   have hp67 : onN z x y = true := by simpa using hb53
   refine d_k [2,3,4,5,17,18] [] 4 En66 fun ac68 En69 => ?_
   refine f_o ?_
   refine m_v 1 0 (.bool z) En69 Hv37 rfl (seg_in rfl) fun ac70 En71 => ?_
   refine d_e [2,3,4,5,20] [] En71 fun ac72 En73 => ?_
   refine then_normal ?_
   refine cond_at En73 (t := z) (by kernel_rfl) (fun hc74 => ?_) (fun hc74 => ?_)
   ·
    replace hc74 : z = true := hc74
    refine wp_seq ?_
    refine region_from ?_
    refine d_k [2,3,4,5,21] [] 1 En73 fun ac75 En76 => ?_
    refine f_o ?_
    refine m_g 2 0 32 (bys ([0, 0, 0, 0, 0, 0, 0, 0, 0, 0, 0, 0, 0, 0, 0, 0, 0, 0, 0, 0, 0, 0, 0, 0, 0, 0, 0, 0, 0, 0, 0, 0] : List UInt8)) (bys ([0, 0, 0, 0, 0, 0, 0, 0, 0, 0, 0, 0, 0, 0, 0, 0, 0, 0, 0, 0, 0, 0, 0, 0, 0, 0, 0, 0, 0, 0, 0, 0] : List UInt8)) [.box bk1 (u64s d) 24, .box bk6 (([.bool z] : List Value) ++ ((u64s x) ++ (u64s y))) 26, .box bk11 (bys ([0, 0, 0, 0, 0, 0, 0, 0, 0, 0, 0, 0, 0, 0, 0, 0, 0, 0, 0, 0, 0, 0, 0, 0, 0, 0, 0, 0, 0, 0, 0, 0] : List UInt8)) 41] En76 Hv37 rfl (bys_lenh (show List.length ([0, 0, 0, 0, 0, 0, 0, 0, 0, 0, 0, 0, 0, 0, 0, 0, 0, 0, 0, 0, 0, 0, 0, 0, 0, 0, 0, 0, 0, 0, 0, 0] : List UInt8) = 32 from rfl)) (by rw [(bys_lenh (List.length_replicate))]; decide) (bys_one _) (store_whole (bys_lenh (List.length_replicate))) rfl fun ac77 wo78 En79 Hv80 => ?_
    refine d_e [2,3,4,5] [] En79 fun ac81 En82 => ?_
    refine then_normal ?_
    refine wp_ret ?_
    refine then_ret ?_
    refine d_cell_tmp (v := .agg (List.toArray (bys ([0, 0, 0, 0, 0, 0, 0, 0, 0, 0, 0, 0, 0, 0, 0, 0, 0, 0, 0, 0, 0, 0, 0, 0, 0, 0, 0, 0, 0, 0, 0, 0] : List UInt8)))) (x := .int .i64 131) (t := 4) (T := 41) (ad := ⟨bk11, 0, none⟩) (u := 5) En82 (by kernel_rfl) (by kernel_rfl) (Ev.cellAgg (t := 41) (k := 2) (off := 0) (m := 32) (xs := bys ([0, 0, 0, 0, 0, 0, 0, 0, 0, 0, 0, 0, 0, 0, 0, 0, 0, 0, 0, 0, 0, 0, 0, 0, 0, 0, 0, 0, 0, 0, 0, 0] : List UInt8)) Hv80 rfl (load_whole (bys_lenh (show List.length ([0, 0, 0, 0, 0, 0, 0, 0, 0, 0, 0, 0, 0, 0, 0, 0, 0, 0, 0, 0, 0, 0, 0, 0, 0, 0, 0, 0, 0, 0, 0, 0] : List UInt8) = 32 from rfl))) (bys_lenh (show List.length ([0, 0, 0, 0, 0, 0, 0, 0, 0, 0, 0, 0, 0, 0, 0, 0, 0, 0, 0, 0, 0, 0, 0, 0, 0, 0, 0, 0, 0, 0, 0, 0] : List UInt8) = 32 from rfl)) (by kernel_rfl) (by kernel_rfl)) (by kernel_rfl) ?_
    exact ⟨ret_sh (b := shN d (z, x, y)) ((by first | exact sh_no2 (by assumption) (by assumption) | exact sh_no3 (by assumption) (by assumption))), Hv80.pk []⟩
   ·
    replace hc74 : ¬ (z = true) := Bool.eq_false_iff.1 hc74
    refine wp_skip ?_
    refine then_normal ?_
    refine wp_seq ?_
    refine region_from ?_
    refine f_o ?_
    refine m_a 0 0 4 (u64s d) En73 Hv37 rfl (load_whole (u64s_lenh hd)) (u64s_lenh hd) fun ac83 En84 => ?_
    refine f_o ?_
    refine m_a 1 0 9 (([.bool z] : List Value) ++ ((u64s x) ++ (u64s y))) En84 Hv37 rfl (load_whole (len_app rfl (len_app (u64s_lenh hx) (u64s_lenh hy)))) (len_app rfl (len_app (u64s_lenh hx) (u64s_lenh hy))) fun ac85 En86 => ?_
    refine f_o ?_
    refine c_p En86 Hv37 (dpmult_go _ d hd z x y hx hy) fun ac91 wo88 En92 Hv93 => ?_
    refine f_o ?_
    refine q_v (x := Instr.field 26 (.agg (List.toArray (([.bool ((mulP (nv d) (z, x, y)).1)] : List Value) ++ ((u64s ((mulP (nv d) (z, x, y)).2.1)) ++ (u64s ((mulP (nv d) (z, x, y)).2.2)))))) 1) (v := .agg (List.toArray (u64s ((mulP (nv d) (z, x, y)).2.1)))) En92 (Go.Dbr.pnt_field1 isP (mulP_len _ _).1 (mulP_len _ _).2 _) fun ac94 En95 => ?_
    refine f_o ?_
    refine c_p En95 Hv93 (rtobe_go _ ((mulP (nv d) (z, x, y)).2.1) (mulP_len _ _).1) fun ac100 wo97 En101 Hv102 => ?_
    refine f_o ?_
    refine m_g 2 0 32 (bys (List.reverse (lb 32 (nv ((mulP (nv d) (z, x, y)).2.1))))) (bys (List.reverse (lb 32 (nv ((mulP (nv d) (z, x, y)).2.1))))) [.box bk1 (u64s d) 24, .box bk6 (([.bool z] : List Value) ++ ((u64s x) ++ (u64s y))) 26, .box bk11 (bys (List.reverse (lb 32 (nv ((mulP (nv d) (z, x, y)).2.1))))) 41] En101 Hv102 rfl (bys_lenh (rev_len (lb_len _ _))) (by rw [(bys_lenh (List.length_replicate))]; decide) (bys_one _) (store_whole (bys_lenh (List.length_replicate))) rfl fun ac103 wo104 En105 Hv106 => ?_
    refine d_e [2,3,4,5] [] En105 fun ac107 En108 => ?_
    refine then_normal ?_
    refine wp_ret ?_
    refine d_cell_tmp (v := .agg (List.toArray (bys (List.reverse (lb 32 (nv ((mulP (nv d) (z, x, y)).2.1))))))) (x := .int .i64 0) (t := 4) (T := 41) (ad := ⟨bk11, 0, none⟩) (u := 5) En108 (by kernel_rfl) (by kernel_rfl) (Ev.cellAgg (t := 41) (k := 2) (off := 0) (m := 32) (xs := bys (List.reverse (lb 32 (nv ((mulP (nv d) (z, x, y)).2.1))))) Hv106 rfl (load_whole (bys_lenh (rev_len (lb_len _ _)))) (bys_lenh (rev_len (lb_len _ _))) (by kernel_rfl) (by kernel_rfl)) (by kernel_rfl) ?_
    exact ⟨ret_sh (b := shN d (z, x, y)) (sh_yes (by assumption) (by assumption) (by assumption)), Hv106.pk []⟩

theorem point_go (w : World) (k : List UInt64) (hk : List.length k = 4) : Calls Try.prog 18 #[.agg (List.toArray (u64s k))] w fun e w' => e = .returned (.agg (List.toArray (([.bool ((mulP (nv k) Gp).1)] : List Value) ++ ((u64s ((mulP (nv k) Gp).2.1)) ++ (u64s ((mulP (nv k) Gp).2.2)))))) ∧ Ev w [] w' [] := by
 refine d_0 [(0, .agg (List.toArray (u64s k)))] 6 Go.Proofs.Try.func18 Go.Proofs.Try.ntmps18 (Heap.nil _) fun act0 En0 Hv0 => ?_
 refine wp_seq ?_
 refine region_from ?_
 refine f_o ?_
 refine m_m 24 (u64s k) En0 Hv0 fun ac2 wo3 bk1 En4 Hv5 => ?_
 refine f_o ?_
 refine m_z 26 (([.bool false] : List Value) ++ ((u64s (List.replicate 4 0)) ++ (u64s (List.replicate 4 0)))) En4 Hv5 fun ac7 wo8 bk6 En9 Hv10 => ?_
 refine f_e ?_
 refine then_normal ?_
 refine wp_seq ?_
 refine r_c (fun ac wo => Env ac 6 [(2, pt bk6)] ∧ Ev w [] wo [.box bk6 (([.bool ((mulP (nv k) Gp).1)] : List Value) ++ ((u64s ((mulP (nv k) Gp).2.1)) ++ (u64s ((mulP (nv k) Gp).2.2)))) 26]) ?_ ?_
 ·
  refine s_g0 [(1, pt bk1), (2, pt bk6)] [0,1,2] [(3, .agg (List.toArray (u64s k))), (4, .agg (List.toArray (([.bool false] : List Value) ++ ((u64s (nd GX)) ++ (u64s (nd GY)))))), (5, .agg (List.toArray (([.bool ((mulP (nv k) Gp).1)] : List Value) ++ ((u64s ((mulP (nv k) Gp).2.1)) ++ (u64s ((mulP (nv k) Gp).2.2))))))] 1 [(2, pt bk6), (5, .agg (List.toArray (([.bool ((mulP (nv k) Gp).1)] : List Value) ++ ((u64s ((mulP (nv k) Gp).2.1)) ++ (u64s ((mulP (nv k) Gp).2.2))))))] (En9.sb) (Hv10.trans (Ev.drew Hv10.heap)) ?_ fun ac34 wo35 En36 Hv37 => ?_
  ·
   refine s_a 0 0 4 (u64s k) rfl (load_whole (u64s_lenh hk)) (u64s_lenh hk) ?_
   refine s_f (fun _ => dbase_go _) ?_
   refine s_f (fun _ => dpmult_go _ k hk false (nd GX) (nd GY) (nds_len _ _) (nds_len _ _)) ?_
   exact s_n
  refine q_u 3 ?_
  refine m_g 1 0 9 (([.bool ((mulP (nv k) Gp).1)] : List Value) ++ ((u64s ((mulP (nv k) Gp).2.1)) ++ (u64s ((mulP (nv k) Gp).2.2)))) (([.bool ((mulP (nv k) Gp).1)] : List Value) ++ ((u64s ((mulP (nv k) Gp).2.1)) ++ (u64s ((mulP (nv k) Gp).2.2)))) [.box bk1 (u64s k) 24, .box bk6 (([.bool ((mulP (nv k) Gp).1)] : List Value) ++ ((u64s ((mulP (nv k) Gp).2.1)) ++ (u64s ((mulP (nv k) Gp).2.2)))) 26] En36 Hv37 rfl (len_app rfl (len_app (u64s_lenh (mulP_len _ _).1) (u64s_lenh (mulP_len _ _).2))) (by rw [(len_app rfl (len_app (u64s_lenh (List.length_replicate)) (u64s_lenh (List.length_replicate))))]; decide) (one_app (one_all (by kernel_rfl)) (one_app (u64s_one _) (u64s_one _))) (store_whole (len_app rfl (len_app (u64s_lenh (List.length_replicate)) (u64s_lenh (List.length_replicate))))) rfl fun ac42 wo43 En44 Hv45 => ?_
  exact a_e ⟨En44.sb, Hv45.pk [1]⟩
 rintro ac46 wo47 ⟨En48, Hv49⟩
 refine then_normal ?_
 refine wp_ret ?_
 refine d_cell1 (v := .agg (List.toArray (([.bool ((mulP (nv k) Gp).1)] : List Value) ++ ((u64s ((mulP (nv k) Gp).2.1)) ++ (u64s ((mulP (nv k) Gp).2.2)))))) (t := 2) (T := 26) (ad := ⟨bk6, 0, none⟩) En48 (by kernel_rfl) (by kernel_rfl) (Ev.cellAgg (t := 26) (k := 0) (off := 0) (m := 9) (xs := ([.bool ((mulP (nv k) Gp).1)] : List Value) ++ ((u64s ((mulP (nv k) Gp).2.1)) ++ (u64s ((mulP (nv k) Gp).2.2)))) Hv49 rfl (load_whole (len_app rfl (len_app (u64s_lenh (mulP_len _ _).1) (u64s_lenh (mulP_len _ _).2)))) (len_app rfl (len_app (u64s_lenh (mulP_len _ _).1) (u64s_lenh (mulP_len _ _).2))) (by kernel_rfl) (by kernel_rfl)) ?_
 exact ⟨by first | rfl | kernel_rfl, Hv49.pk []⟩

theorem henc_go (w : World) : Calls Try.prog 26 #[.agg (List.toArray (([.bool ((mulP (nv [2, 0, 0, 0]) Gp).1)] : List Value) ++ ((u64s ((mulP (nv [2, 0, 0, 0]) Gp).2.1)) ++ (u64s ((mulP (nv [2, 0, 0, 0]) Gp).2.2)))))] w fun e w' => ∃ ao cap, e = .returned (.slice ao 65 cap) ∧ Ev w [] w' [.vec ao cap 1 (bys headL) 5] := by
  have h := enc_go w (mulP (nv [2, 0, 0, 0]) Gp).1 (mulP (nv [2, 0, 0, 0]) Gp).2.1 (mulP (nv [2, 0, 0, 0]) Gp).2.2 (mulP_len _ _).1 (mulP_len _ _).2
  rw [head_enc] at h
  exact h

theorem head_ok (w : World) : Calls Try.prog 9 #[] w fun e w' => e = .returned (.bool true) ∧ Ev w [] w' [] := by
 refine d_0 [] 37 Go.Proofs.Try.func9 Go.Proofs.Try.ntmps9 (Heap.nil _) fun act0 En0 Hv0 => ?_
 refine d_s [0] [] En0 fun ac1 En2 => ?_
 refine wp_seq ?_
 refine region_from ?_
 refine d_k [0,2] [] 1 En2 fun ac3 En4 => ?_
 refine f_o ?_
 refine c_p En4 Hv0 (pbase_go _) fun ac9 wo6 En10 Hv11 => ?_
 refine f_o ?_
 refine c_p En10 Hv11 (pmult_go _ ([2, 0, 0, 0] : List UInt64) (show List.length ([2, 0, 0, 0] : List UInt64) = 4 from rfl) false (nd GX) (nd GY) (nds_len _ _) (nds_len _ _)) fun ac16 wo13 En17 Hv18 => ?_
 refine f_o ?_
 refine c_0 En17 Hv18 (henc_go _) ?_
 rintro _ wo22 ⟨ao19, cp20, rfl, he23⟩
 refine ⟨_, _, _, rfl, he23, rfl, fun ac25 En26 Hv27 => ?_⟩
 refine d_e [0,1] [] En26 fun ac28 En29 => ?_
 have hl65 : List.length headL = 65 := rfl
 refine then_normal ?_
 have hb32 : 0 < 65 := (by omega)
 obtain ⟨adr30, had31⟩ := some_of (fun e => by have h := (bys_vnz Hv27.heap (k := 0) rfl) e; first | omega | (rw [List.length_take] at h; omega) | (simp at h; omega)) hb32
 refine wp_seq ?_
 refine region_from ?_
 refine d_k [0,1,9,10] [] 5 En29 fun ac33 En34 => ?_
 refine f_o ?_
 refine q_v (x := Instr.indexAt 46 (.slice ao19 65 cp20) (.int .i64 0)) (v := .pointer (some (Addr.add adr30 0))) En34 (Go.Dbr.run_indexsl (e := 5) (sz := 1) (j := 0) (jo := 0) had31 (by kernel_rfl) (by kernel_rfl) (by omega) hb32 (Nat.mul_one _) _) fun ac35 En36 => ?_
 refine f_o ?_
 have hb37 : 0 < List.length headL := by omega
 refine op_loadel (d := some 12) (t := 5) (ad := adr30) (ao := ao19) (xs := bys headL) (j := 0) (v := bv (List.getD headL 0 0)) En36 (by kernel_rfl) (Hv27.heap.reads (k := 0) rfl) had31 (bys_getD hb37) (by kernel_rfl) ?_
 intro ac38 En39
 have hb42 : 1 < 65 := (by omega)
 obtain ⟨adr40, had41⟩ := some_of (fun e => by have h := (bys_vnz Hv27.heap (k := 0) rfl) e; first | omega | (rw [List.length_take] at h; omega) | (simp at h; omega)) hb42
 refine d_k [0,1,15,16] [(7, g_b (show (((UInt8.toNat (List.getD headL 0 0) : Nat) : Int) == (4 : Int)) = true from (by decide)))] 11 En39 fun ac43 En44 => ?_
 refine f_o ?_
 refine q_v (x := Instr.indexAt 46 (.slice ao19 65 cp20) (.int .i64 1)) (v := .pointer (some (Addr.add adr40 1))) En44 (Go.Dbr.run_indexsl (e := 5) (sz := 1) (j := 1) (jo := 1) had41 (by kernel_rfl) (by kernel_rfl) (by omega) hb42 (Nat.mul_one _) _) fun ac45 En46 => ?_
 refine f_o ?_
 have hb47 : 1 < List.length headL := by omega
 refine op_loadel (d := some 18) (t := 5) (ad := adr40) (ao := ao19) (xs := bys headL) (j := 1) (v := bv (List.getD headL 1 0)) En46 (by kernel_rfl) (Hv27.heap.reads (k := 0) rfl) had41 (bys_getD hb47) (by kernel_rfl) ?_
 intro ac48 En49
 have hb52 : 2 < 65 := (by omega)
 obtain ⟨adr50, had51⟩ := some_of (fun e => by have h := (bys_vnz Hv27.heap (k := 0) rfl) e; first | omega | (rw [List.length_take] at h; omega) | (simp at h; omega)) hb52
 refine d_k [0,1,21,22] [(13, g_b (show (((UInt8.toNat (List.getD headL 1 0) : Nat) : Int) == (124 : Int)) = true from (by decide)))] 17 En49 fun ac53 En54 => ?_
 refine f_o ?_
 refine q_v (x := Instr.indexAt 46 (.slice ao19 65 cp20) (.int .i64 2)) (v := .pointer (some (Addr.add adr50 2))) En54 (Go.Dbr.run_indexsl (e := 5) (sz := 1) (j := 2) (jo := 2) had51 (by kernel_rfl) (by kernel_rfl) (by omega) hb52 (Nat.mul_one _) _) fun ac55 En56 => ?_
 refine f_o ?_
 have hb57 : 2 < List.length headL := by omega
 refine op_loadel (d := some 24) (t := 5) (ad := adr50) (ao := ao19) (xs := bys headL) (j := 2) (v := bv (List.getD headL 2 0)) En56 (by kernel_rfl) (Hv27.heap.reads (k := 0) rfl) had51 (bys_getD hb57) (by kernel_rfl) ?_
 intro ac58 En59
 have hb62 : 32 < 65 := (by omega)
 obtain ⟨adr60, had61⟩ := some_of (fun e => by have h := (bys_vnz Hv27.heap (k := 0) rfl) e; first | omega | (rw [List.length_take] at h; omega) | (simp at h; omega)) hb62
 refine d_k [0,27,28] [(19, g_b (show (((UInt8.toNat (List.getD headL 2 0) : Nat) : Int) == (242 : Int)) = true from (by decide)))] 23 En59 fun ac63 En64 => ?_
 refine f_o ?_
 refine q_v (x := Instr.indexAt 46 (.slice ao19 65 cp20) (.int .i64 32)) (v := .pointer (some (Addr.add adr60 32))) En64 (Go.Dbr.run_indexsl (e := 5) (sz := 1) (j := 32) (jo := 32) had61 (by kernel_rfl) (by kernel_rfl) (by omega) hb62 (Nat.mul_one _) _) fun ac65 En66 => ?_
 refine f_o ?_
 have hb67 : 32 < List.length headL := by omega
 refine op_loadel (d := some 30) (t := 5) (ad := adr60) (ao := ao19) (xs := bys headL) (j := 32) (v := bv (List.getD headL 32 0)) En66 (by kernel_rfl) (Hv27.heap.reads (k := 0) rfl) had61 (bys_getD hb67) (by kernel_rfl) ?_
 intro ac68 En69
 refine d_k [0,33] [(25, g_b (show (((UInt8.toNat (List.getD headL 32 0) : Nat) : Int) == (120 : Int)) = true from (by decide)))] 28 En69 fun ac70 En71 => ?_
 refine f_o ?_
 refine c_p En71 Hv27 (pbase_go _) fun ac76 wo73 En77 Hv78 => ?_
 refine f_o ?_
 refine c_p En77 Hv78 (on_go _ false (nd GX) (nd GY) (nds_len _ _) (nds_len _ _)) fun ac83 wo80 En84 Hv85 => ?_
 refine d_e [0] [] En84 fun ac86 En87 => ?_
 refine then_normal ?_
 refine wp_ret ?_
 refine d_ret1 (t := 0) (v := .bool (onN false (nd GX) (nd GY))) En87 (by kernel_rfl) (by kernel_rfl) ?_
 exact ⟨by rw [show onN false (nd GX) (nd GY) = true from on_G], Hv85.pk []⟩

end Go.Proofs.Ytpfhmbbiadpbeaa
