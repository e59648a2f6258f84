/- Layer 2: bytes are copied, and joined. -/
import Derived.Test.YtfeibokonhdgnaaK1
namespace Go.Proofs.Ytfeibokonhdgnaa
open Go.Dbr
set_option maxRecDepth 100000
set_option maxHeartbeats 2000000
set_option linter.unusedVariables false
set_option linter.unusedSimpArgs false

theorem clone_go (w : World) (a : Option Addr) (c : Nat) (l : List UInt8) (i : InB w [] a c l) : Calls Try.prog 19 #[.slice a (List.length l) c] w fun e w' => ∃ ao cap, e = .returned (.slice ao (List.length l) cap) ∧ Ev w [] w' [.vec ao cap 1 (bys l) 5] := by
 refine d_0 [(0, .slice a (List.length l) c)] 8 Go.Proofs.Try.func19 Go.Proofs.Try.ntmps19 (Heap.nil _) fun act0 En0 Hv0 => ?_
 refine d_s [0,2] [] En0 fun ac1 En2 => ?_
 refine wp_seq ?_
 refine wp_seq ?_
 refine region_from ?_
 refine d_k [0,2,3] [] 1 En2 fun ac3 En4 => ?_
 refine f_o ?_
 refine q_v (x := binOp .eql 22 (.slice a (List.length l) c) (.slice none 0 0)) (v := .bool (Option.isNone a)) En4 (Go.Dbr.run_slicenil (e := 5) (by kernel_rfl) a (List.length l) c _) fun ac5 En6 => ?_
 refine f_e ?_
 refine then_normal ?_
 refine cond_at En6 (t := Option.isNone a) (by kernel_rfl) (fun hc7 => ?_) (fun hc7 => ?_)
 ·
  replace hc7 : Option.isNone a = true := hc7
  refine d_s [0,2] [] En6 fun ac8 En9 => ?_
  refine wp_ret ?_
  refine then_ret ?_
  refine d_ret1 (t := 2) (v := .slice none 0 0) En9 (by kernel_rfl) (by kernel_rfl) ?_
  have hl0 : l = [] := List.length_eq_zero_iff.1 (i.nz (Option.isNone_iff_eq_none.1 hc7))
  subst hl0
  exact ⟨none, 0, rfl, (Ev.nil (sz := 1) (T := 5) Hv0).pick [0] (by kernel_rfl) (by decide)⟩
 ·
  replace hc7 : ¬ (Option.isNone a = true) := Bool.eq_false_iff.1 hc7
  refine wp_skip ?_
  refine then_normal ?_
  refine wp_seq ?_
  refine region_from ?_
  refine f_o ?_
  refine op_lit (d := some 5) (t := 22) (T := 5) (m := 0) (parts := #[]) (xs := bys []) (sz := 1) En6 (by kernel_rfl) (by kernel_rfl) rfl (by decide) Hv0 ?_
  intro ac11 wo12 bk10 En13 Hv14
  refine d_k [0,2,5,6] [] 2 En13 fun ac15 En16 => ?_
  refine f_o ?_
  have hsm17 := i.small
  refine op_append (d := some 7) (t := 22) (tx := 22) (ty := 22) (k := 0) (p := 0) (m := List.length l) (x := .slice a (List.length l) c) (bytes := 1) En16 (by kernel_rfl) Hv14 rfl rfl (Reads.src (size := 1) (tx := 22) (e' := 5) (by kernel_rfl) (i.ev Hv14).reads (bys_len _) i.nz (bys_one _)) (by kernel_rfl) (z := .int .u8 0) (by kernel_rfl) rfl (by decide) (by have := i.small; omega) (by unfold maxLen; omega) ?_
  intro ac22 wo23 ao18 cp19 En24 Hv25 hnz _
  clear hnz
  rw [bys_nil_append] at Hv25
  have ehz20 : 0 + (List.length l) = List.length l := (by first | (simp; done) | (simp; omega) | omega)
  rw [ehz20] at En24
  refine d_e [0,2] [] En24 fun ac26 En27 => ?_
  refine then_normal ?_
  refine wp_ret ?_
  refine d_ret1 (t := 2) (v := .slice ao18 (List.length l) cp19) En27 (by kernel_rfl) (by kernel_rfl) ?_
  exact ⟨ao18, cp19, rfl, Hv25.pick [0] (by kernel_rfl) (by decide)⟩

theorem grow_nil (w : World) (n : Nat) (hn : n ≤ 140737488351232) : Calls Try.prog 31 #[.slice none 0 0, ni n] w fun e w' => ∃ ao co, e = .returned (.slice ao 0 co) ∧ Ev w [] w' [.vec ao co 1 (bys []) 5] := by
 refine d_start [(0, .slice none 0 0), (1, ni n)] 27 Go.Proofs.Try.func31 Go.Proofs.Try.ntmps31 rfl (by kernel_rfl) (by kernel_rfl) ?_
 intro act0 En0
 have Hv0 : Ev w [] w [] := Ev.refl (Heap.nil _)
 refine wp_seq ?_
 refine region_from ?_
 refine d_pures [(0, .slice none 0 0), (1, ni n), (4, .slice none 0 0)] [.slice none 0 0] 1 En0 (by kernel_rfl) (by kernel_rfl) rfl ?_
 intro ac1 En2
 refine from_end (by kernel_rfl) ?_
 refine then_normal ?_
 refine wp_seq ?_
 refine wp_seq ?_
 refine region_from ?_
 refine d_pures [(0, .slice none 0 0), (1, ni n), (4, .slice none 0 0), (6, .bool (decide (((n : Nat) : Int) < (0 : Int))))] [ni n, .bool (decide (((n : Nat) : Int) < (0 : Int)))] 2 En2 (by kernel_rfl) (by kernel_rfl) rfl ?_
 intro ac3 En4
 refine from_end (by kernel_rfl) ?_
 refine then_normal ?_
 refine cond_at En4 (t := decide (((n : Nat) : Int) < (0 : Int))) (by kernel_rfl) (fun hc5 => ?_) (fun hc5 => ?_)
 ·
  replace hc5 : ((n : Nat) : Int) < (0 : Int) := of_decide_eq_true hc5
  exfalso; omega
 ·
  replace hc5 : ¬ (((n : Nat) : Int) < (0 : Int)) := of_decide_eq_false hc5
  refine wp_skip ?_
  refine then_normal ?_
  refine wp_seq ?_
  refine wp_seq ?_
  refine region_from ?_
  refine d_pures [(0, .slice none 0 0), (1, ni n), (4, .slice none 0 0), (14, .int .i64 (IntKind.wrap .i64 (((n : Nat) : Int) - (0 : Int))))] [ni n, .slice none 0 0, .int .i64 0, .slice none 0 0, .int .i64 0, .int .i64 0, .int .i64 (IntKind.wrap .i64 (((n : Nat) : Int) - (0 : Int)))] 7 En4 (by kernel_rfl) (by kernel_rfl) rfl ?_
  intro ac6 En7
  rw [Go.Dbr.wr64 (e := ((n : Nat) : Int) - (0 : Int)) (x := ((n : Nat) : Int)) (by omega) (by omega) (by omega)] at En7
  refine d_pures [(0, .slice none 0 0), (1, ni n), (4, .slice none 0 0)] [ni n] 8 En7 (by kernel_rfl) (by kernel_rfl) rfl ?_
  intro ac8 En9
  refine from_end (by kernel_rfl) ?_
  refine then_normal ?_
  refine wp_seq ?_
  refine region_from ?_
  refine d_pures [(0, .slice none 0 0), (1, ni n), (4, .slice none 0 0), (16, .bool (decide (((n : Nat) : Int) > (0 : Int))))] [ni n, .bool (decide (((n : Nat) : Int) > (0 : Int)))] 2 En9 (by kernel_rfl) (by kernel_rfl) rfl ?_
  intro ac10 En11
  refine from_end (by kernel_rfl) ?_
  refine then_normal ?_
  refine cond_at En11 (t := decide (((n : Nat) : Int) > (0 : Int))) (by kernel_rfl) (fun hc12 => ?_) (fun hc12 => ?_)
  ·
   replace hc12 : ((n : Nat) : Int) > (0 : Int) := of_decide_eq_true hc12
   refine region_from ?_
   refine d_pures [(0, .slice none 0 0), (1, ni n), (4, .slice none 0 0), (20, .slice none 0 0), (21, ni n)] [.slice none 0 0, .slice none 0 0, .int .i64 0, .slice none 0 0, ni n] 5 En11 (by kernel_rfl) (by kernel_rfl) rfl ?_
   intro ac13 En14
   refine from_op (by kernel_rfl) ?_
   refine op_growzero (d := some 22) (t := 22) (tn := 3) (ty := 22) (T := 5) (m := n) (ik := .i64) (kn := .i64) (z := .int .u8 0) (bytes := 1) En14 (by kernel_rfl) Hv0 (by kernel_rfl) (by kernel_rfl) (by kernel_rfl) (by kernel_rfl) (by omega) (by omega) (by unfold maxLen; omega) ?_
   intro acg wog ao15 cp16 Eng Hvg _
   replace Hvg : Ev w [] wog [.vec ao15 cp16 1 (bys (List.replicate n 0)) 5] := by have h := Hvg; rw [show List.replicate n (Value.int .u8 0) = bys (List.replicate n 0) from by simp [bys, bv]] at h; exact h
   refine d_pures [(0, .slice none 0 0), (1, ni n), (4, .slice none 0 0), (22, .slice ao15 n cp16), (24, .int .i64 0)] [.slice none 0 0, .int .i64 0] 8 Eng (by kernel_rfl) (by kernel_rfl) rfl ?_
   intro ac17 En18
   refine from_op (by kernel_rfl) ?_
   have hcap19 := bys_vcap Hvg.heap (k := 0) rfl
   refine op_slice0 (d := some 25) (t := 22) (e := 5) (sz := 1) (len := n) (cap := cp16) (hi := 0) (ao := ao15) (lov := none) (hiv := (some (.int .i64 0))) En18 (by kernel_rfl) (by kernel_rfl) (by kernel_rfl) (by omega) (.inl ⟨rfl, rfl⟩) (.inr ⟨.i64, rfl⟩) ?_
   intro ac20 En21
   have Hv22 : Ev w [] wog [.vec ao15 cp16 1 (bys (List.take 0 (List.replicate n 0))) 5] := by
    have h := Ev.cut (k := 0) (n := n) (sz := 1) Hvg rfl (bys_lenn (by simp)) (by omega) 0 0 (by omega) (by omega)
    rw [cutAt_zero] at h
    rw [bys_cut0] at h
    exact h
   refine d_pures [(0, .slice ao15 0 cp16), (1, ni n), (4, .slice none 0 0)] [.slice ao15 0 cp16] 10 En21 (by kernel_rfl) (by kernel_rfl) rfl ?_
   intro ac23 En24
   refine from_end (by kernel_rfl) ?_
   refine then_normal ?_
   refine wp_seq ?_
   refine region_from ?_
   refine d_pures [(0, .slice ao15 0 cp16), (1, ni n), (4, .slice ao15 0 cp16)] [.slice ao15 0 cp16, .slice ao15 0 cp16] 2 En24 (by kernel_rfl) (by kernel_rfl) rfl ?_
   intro ac25 En26
   refine from_end (by kernel_rfl) ?_
   refine then_normal ?_
   refine wp_ret ?_
   refine d_ret1 (t := 4) (v := .slice ao15 0 cp16) En26 (by kernel_rfl) (by kernel_rfl) ?_
   exact ⟨ao15, cp16, rfl, Hv22.pick [0] (by kernel_rfl) (by decide)⟩
  ·
   replace hc12 : ¬ (((n : Nat) : Int) > (0 : Int)) := of_decide_eq_false hc12
   refine wp_skip ?_
   refine then_normal ?_
   refine wp_seq ?_
   refine region_from ?_
   refine d_pures [(0, .slice none 0 0), (1, ni n), (4, .slice none 0 0)] [.slice none 0 0, .slice none 0 0] 2 En11 (by kernel_rfl) (by kernel_rfl) rfl ?_
   intro ac27 En28
   refine from_end (by kernel_rfl) ?_
   refine then_normal ?_
   refine wp_ret ?_
   refine d_ret1 (t := 4) (v := .slice none 0 0) En28 (by kernel_rfl) (by kernel_rfl) ?_
   exact ⟨none, 0, rfl, Ev.nil (sz := 1) (T := 5) Hv0⟩

theorem flat_take_succ {l : List (Sl UInt8)} {k : Nat} {x : Sl UInt8} (h : l[k]? = some x) : (l.take (k + 1)).flatMap (fun s => s.l) = (l.take k).flatMap (fun s => s.l) ++ x.l := by
  rw [List.take_add_one, h, List.flatMap_append]
  simp
theorem flat_take_le {l : List (Sl UInt8)} {k : Nat} {x : Sl UInt8} (h : l[k]? = some x) : ((l.take k).flatMap (fun s => s.l)).length + x.l.length ≤ (l.flatMap (fun s => s.l)).length := by
  have h1 := flat_take_succ h
  have h2 : l.flatMap (fun s => s.l) = (l.take (k + 1)).flatMap (fun s => s.l) ++ (l.drop (k + 1)).flatMap (fun s => s.l) := by rw [← List.flatMap_append, List.take_append_drop]
  rw [h2, h1]
  simp

theorem concat_go (w : World) (ax : Option Addr) (nx cx : Nat) (lx : List (Sl UInt8)) (ex : nx = List.length lx) (ix : InS (fun s : Sl UInt8 => s.f) 24 (fun x : Sl UInt8 => InB w [] x.a x.c x.l) w [] ax cx lx) (hT : List.length (List.flatMap (fun s : Sl UInt8 => s.l) lx) ≤ 140737488351232) : Calls Try.prog 20 #[.slice ax nx cx] w fun e w' => ∃ ao co, e = .returned (.slice ao (List.length (List.flatMap (fun s : Sl UInt8 => s.l) lx)) co) ∧ Ev w [] w' [.vec ao co 1 (bys (List.flatMap (fun s : Sl UInt8 => s.l) lx)) 5] := by
 subst ex
 have hs := ix.small
 have hc2 := ix.cap
 refine d_start [(0, .slice ax (List.length lx) cx)] 36 Go.Proofs.Try.func20 Go.Proofs.Try.ntmps20 rfl (by kernel_rfl) (by kernel_rfl) ?_
 intro act0 En0
 have Hv0 : Ev w [] w [] := Ev.refl (Heap.nil _)
 refine wp_seq ?_
 refine region_from ?_
 refine d_pures [(0, .slice ax (List.length lx) cx), (2, .slice none 0 0)] [.slice none 0 0] 1 En0 (by kernel_rfl) (by kernel_rfl) rfl ?_
 intro ac1 En2
 refine from_end (by kernel_rfl) ?_
 refine then_normal ?_
 refine wp_seq ?_
 refine region_from ?_
 refine d_pures [(0, .slice ax (List.length lx) cx), (2, .slice none 0 0), (3, .int .i64 0)] [.int .i64 0] 1 En2 (by kernel_rfl) (by kernel_rfl) rfl ?_
 intro ac3 En4
 refine from_end (by kernel_rfl) ?_
 refine then_normal ?_
 refine wp_seq ?_
 refine wp_seq ?_
 refine region_from ?_
 refine d_pures [(0, .slice ax (List.length lx) cx), (2, .slice none 0 0), (3, .int .i64 0), (9, .slice ax (List.length lx) cx), (10, .int .i64 ((List.length lx : Nat) : Int)), (11, .int .i64 0)] [.slice ax (List.length lx) cx, .int .i64 ((List.length lx : Nat) : Int), .int .i64 0] 3 En4 (by kernel_rfl) (by kernel_rfl) rfl ?_
 intro ac5 En6
 refine from_end (by kernel_rfl) ?_
 refine then_normal ?_
 refine wp_block ?_
 refine loop_m (fun ms7 ac wo => ∃ (k : Nat) (t : Nat), ms7 = (List.length lx - k : Nat) ∧ Env ac 36 [(0, .slice ax (List.length lx) cx), (2, .slice none 0 0), (3, ni t), (9, .slice ax (List.length lx) cx), (10, .int .i64 ((List.length lx : Nat) : Int)), (11, ni k)] ∧ Ev w [] wo [] ∧ (k ≤ List.length lx) ∧ (t = List.length (List.flatMap (fun s : Sl UInt8 => s.l) (List.take k lx)))) ⟨_, 0, 0, rfl, En6.sub (by kernel_rfl), Hv0.pick [] (by kernel_rfl) (by decide), by omega, by rfl⟩ ?_
 rintro mm13 ac9 wo10 ⟨k, t, rfl, En11, Hv12, hk, ht⟩
 refine wp_seq ?_
 refine region_from ?_
 refine d_pures [(0, .slice ax (List.length lx) cx), (2, .slice none 0 0), (3, ni t), (9, .slice ax (List.length lx) cx), (10, .int .i64 ((List.length lx : Nat) : Int)), (11, ni k), (12, .bool (decide (((k : Nat) : Int) < ((List.length lx : Nat) : Int))))] [.bool (decide (((k : Nat) : Int) < ((List.length lx : Nat) : Int)))] 1 En11 (by kernel_rfl) (by kernel_rfl) rfl ?_
 intro ac14 En15
 refine from_end (by kernel_rfl) ?_
 refine then_normal ?_
 refine wp_seq ?_
 refine cond_at En15 (t := decide (((k : Nat) : Int) < ((List.length lx : Nat) : Int))) (by kernel_rfl) (fun hc16 => ?_) (fun hc16 => ?_)
 ·
  replace hc16 : ((k : Nat) : Int) < ((List.length lx : Nat) : Int) := of_decide_eq_true hc16
  refine wp_skip ?_
  refine then_normal ?_
  refine wp_seq ?_
  refine wp_block ?_
  refine wp_seq ?_
  refine region_from ?_
  have hb19 : k < List.length lx := (by omega)
  obtain ⟨adr17, had18⟩ := some_of ix.nz hb19
  have hb20 : k < List.length lx := by omega
  obtain ⟨⟨a_x22, c_x22, x22⟩, hx21⟩ : ∃ x, (lx)[k]? = some x := ⟨_, List.getElem?_eq_getElem hb20⟩
  obtain i_x22 := ix.each _ (List.mem_of_getElem? hx21)
  replace i_x22 : InB w [] a_x22 c_x22 x22 := i_x22
  refine from_op (by kernel_rfl) ?_
  refine op_val (d := some 13) (x := Instr.indexAt 64 (.slice ax (List.length lx) cx) (ni k)) (v := .pointer (some (Addr.add adr17 k))) En15 (by kernel_rfl) (Go.Dbr.run_indexsl (e := 22) (sz := 1) (j := k) (jo := k) had18 (by kernel_rfl) (by kernel_rfl) (by omega) hb19 (Nat.mul_one _) _) ?_
  intro ac23 En24
  refine from_op (by kernel_rfl) ?_
  refine op_loadf (d := some 14) (t := 22) (ad := adr17) (ao := ax) (ys := List.flatMap (fun s : Sl UInt8 => s.f) lx) (o := k) (v := .slice a_x22 (List.length x22) c_x22) En24 (by kernel_rfl) rfl (ix.ro.ev Hv12).reads had18 ((flat_get1 (fun _ _ => rfl) hx21).trans rfl) (by kernel_rfl) ?_
  intro ac25 En26
  refine d_pures [(0, .slice ax (List.length lx) cx), (2, .slice none 0 0), (3, ni t), (5, .slice a_x22 (List.length x22) c_x22), (9, .slice ax (List.length lx) cx), (10, .int .i64 ((List.length lx : Nat) : Int)), (11, ni k)] [.slice a_x22 (List.length x22) c_x22] 3 En26 (by kernel_rfl) (by kernel_rfl) rfl ?_
  intro ac27 En28
  refine from_end (by kernel_rfl) ?_
  refine then_normal ?_
  refine wp_seq ?_
  refine region_from ?_
  have hqhx21 := flat_take_le hx21
  simp only at hqhx21
  rw [← ht] at hqhx21
  refine d_pures [(0, .slice ax (List.length lx) cx), (2, .slice none 0 0), (3, ni t), (9, .slice ax (List.length lx) cx), (10, .int .i64 ((List.length lx : Nat) : Int)), (11, ni k), (18, .int .i64 (IntKind.wrap .i64 (((t : Nat) : Int) + ((List.length x22 : Nat) : Int))))] [ni t, .slice a_x22 (List.length x22) c_x22, .int .i64 ((List.length x22 : Nat) : Int), .int .i64 (IntKind.wrap .i64 (((t : Nat) : Int) + ((List.length x22 : Nat) : Int)))] 4 En28 (by kernel_rfl) (by kernel_rfl) rfl ?_
  intro ac29 En30
  rw [Go.Dbr.wr64 (e := ((t : Nat) : Int) + ((List.length x22 : Nat) : Int)) (x := ((t + (List.length x22) : Nat) : Int)) (by omega) (by omega) (by omega)] at En30
  refine d_pures [(0, .slice ax (List.length lx) cx), (2, .slice none 0 0), (3, .int .i64 ((t + (List.length x22) : Nat) : Int)), (9, .slice ax (List.length lx) cx), (10, .int .i64 ((List.length lx : Nat) : Int)), (11, ni k)] [.int .i64 ((t + (List.length x22) : Nat) : Int)] 5 En30 (by kernel_rfl) (by kernel_rfl) rfl ?_
  intro ac31 En32
  refine from_end (by kernel_rfl) ?_
  refine then_normal ?_
  refine wp_seq ?_
  refine region_from ?_
  refine d_pures [(0, .slice ax (List.length lx) cx), (2, .slice none 0 0), (3, .int .i64 ((t + (List.length x22) : Nat) : Int)), (9, .slice ax (List.length lx) cx), (10, .int .i64 ((List.length lx : Nat) : Int)), (11, ni k), (20, .bool (decide (((t + (List.length x22) : Nat) : Int) < (0 : Int))))] [.int .i64 ((t + (List.length x22) : Nat) : Int), .bool (decide (((t + (List.length x22) : Nat) : Int) < (0 : Int)))] 2 En32 (by kernel_rfl) (by kernel_rfl) rfl ?_
  intro ac33 En34
  refine from_end (by kernel_rfl) ?_
  refine then_normal ?_
  refine cond_at En34 (t := decide (((t + (List.length x22) : Nat) : Int) < (0 : Int))) (by kernel_rfl) (fun hc35 => ?_) (fun hc35 => ?_)
  ·
   replace hc35 : ((t + (List.length x22) : Nat) : Int) < (0 : Int) := of_decide_eq_true hc35
   exfalso; omega
  ·
   replace hc35 : ¬ (((t + (List.length x22) : Nat) : Int) < (0 : Int)) := of_decide_eq_false hc35
   refine wp_skip ?_
   refine block_normal ?_
   refine then_normal ?_
   refine region_from ?_
   refine d_pures [(0, .slice ax (List.length lx) cx), (2, .slice none 0 0), (3, .int .i64 ((t + (List.length x22) : Nat) : Int)), (9, .slice ax (List.length lx) cx), (10, .int .i64 ((List.length lx : Nat) : Int)), (11, ni k), (22, .int .i64 (IntKind.wrap .i64 (((k : Nat) : Int) + (1 : Int))))] [.int .i64 (IntKind.wrap .i64 (((k : Nat) : Int) + (1 : Int)))] 1 En34 (by kernel_rfl) (by kernel_rfl) rfl ?_
   intro ac36 En37
   rw [Go.Dbr.wr64 (e := ((k : Nat) : Int) + (1 : Int)) (x := ((k + 1 : Nat) : Int)) (by omega) (by omega) (by omega)] at En37
   refine d_pures [(0, .slice ax (List.length lx) cx), (2, .slice none 0 0), (3, .int .i64 ((t + (List.length x22) : Nat) : Int)), (9, .slice ax (List.length lx) cx), (10, .int .i64 ((List.length lx : Nat) : Int)), (11, .int .i64 ((k + 1 : Nat) : Int))] [.int .i64 ((k + 1 : Nat) : Int)] 2 En37 (by kernel_rfl) (by kernel_rfl) rfl ?_
   intro ac38 En39
   refine from_end (by kernel_rfl) ?_
   refine then_normal ?_
   have hq := flat_take_le hx21
   refine ⟨_, ⟨k + 1, t + List.length x22, rfl, En39.sub (by kernel_rfl), Hv12.pick [] (by kernel_rfl) (by decide), by omega, by rw [flat_take_succ hx21, List.length_append, ht]⟩, ?_⟩
   omega
 ·
  replace hc16 : ¬ (((k : Nat) : Int) < ((List.length lx : Nat) : Int)) := of_decide_eq_false hc16
  refine wp_exit ?_
  refine then_exit ?_
  refine then_exit ?_
  refine block_exit ?_
  refine then_normal ?_
  refine wp_seq ?_
  refine region_from ?_
  refine d_pures [(0, .slice ax (List.length lx) cx), (2, .slice none 0 0), (3, ni t), (9, .slice ax (List.length lx) cx), (10, .int .i64 ((List.length lx : Nat) : Int)), (11, ni k), (23, ni t)] [ni t] 1 En15 (by kernel_rfl) (by kernel_rfl) rfl ?_
  intro ac40 En41
  refine from_op (by kernel_rfl) ?_
  have hcc : t ≤ 140737488351232 := by rw [ht]; have := hT; rw [show List.take k lx = lx from List.take_of_length_le (by omega)]; omega
  have hM42 : Heap wo10 [] := Hv12.heap.pick [] (by kernel_rfl) (by decide)
  refine op_call (d := some 24) (f := 31) (args := #[.slice none 0 0, ni t]) En41 (by kernel_rfl) ((grow_nil _ t hcc).mono ?_)
  rintro _ wo44 ⟨gao, gco, rfl, he47⟩
  refine ⟨_, rfl, ?_⟩
  intro ac43 En45
  have Hv46 : Ev w [] wo44 [.vec gao gco 1 (bys []) 5] := Hv12.trans (Ev.call (R := []) Hv12.heap [] (by kernel_rfl) (by decide) he47)
  clear hM42 he47
  refine d_pures [(0, .slice ax (List.length lx) cx), (2, .slice none 0 0), (3, ni t), (6, .slice gao 0 gco), (9, .slice ax (List.length lx) cx), (10, .int .i64 ((List.length lx : Nat) : Int)), (11, ni k)] [.slice gao 0 gco] 3 En45 (by kernel_rfl) (by kernel_rfl) rfl ?_
  intro ac48 En49
  refine from_end (by kernel_rfl) ?_
  refine then_normal ?_
  refine wp_seq ?_
  refine wp_seq ?_
  refine region_from ?_
  refine d_pures [(0, .slice ax (List.length lx) cx), (2, .slice none 0 0), (3, ni t), (6, .slice gao 0 gco), (9, .slice ax (List.length lx) cx), (10, .int .i64 ((List.length lx : Nat) : Int)), (11, ni k), (25, .slice ax (List.length lx) cx), (26, .int .i64 ((List.length lx : Nat) : Int)), (27, .int .i64 0)] [.slice ax (List.length lx) cx, .int .i64 ((List.length lx : Nat) : Int), .int .i64 0] 3 En49 (by kernel_rfl) (by kernel_rfl) rfl ?_
  intro ac50 En51
  refine from_end (by kernel_rfl) ?_
  refine then_normal ?_
  refine wp_block ?_
  have htt : k = List.length lx := by omega
  refine loop_m (fun ms52 ac wo => ∃ (j : Nat) (lo : List UInt8) (xo : Option Addr) (yo : Nat), ms52 = (List.length lx - j : Nat) ∧ Env ac 36 [(0, .slice ax (List.length lx) cx), (2, .slice none 0 0), (3, ni t), (6, .slice xo (List.length lo) yo), (9, .slice ax (List.length lx) cx), (10, .int .i64 ((List.length lx : Nat) : Int)), (11, ni k), (25, .slice ax (List.length lx) cx), (26, .int .i64 ((List.length lx : Nat) : Int)), (27, ni j)] ∧ Ev w [] wo [.vec xo yo 1 (bys lo) 5] ∧ (j ≤ List.length lx) ∧ (lo = List.flatMap (fun s : Sl UInt8 => s.l) (List.take j lx))) ⟨_, 0, [], gao, gco, rfl, En51.sub (by kernel_rfl), Hv46.pick [0] (by kernel_rfl) (by decide), by omega, by rfl⟩ ?_
  rintro mm58 ac54 wo55 ⟨j, lo, xo, yo, rfl, En56, Hv57, hj, hlo⟩
  refine wp_seq ?_
  refine region_from ?_
  refine d_pures [(0, .slice ax (List.length lx) cx), (2, .slice none 0 0), (3, ni t), (6, .slice xo (List.length lo) yo), (9, .slice ax (List.length lx) cx), (10, .int .i64 ((List.length lx : Nat) : Int)), (11, ni k), (25, .slice ax (List.length lx) cx), (26, .int .i64 ((List.length lx : Nat) : Int)), (27, ni j), (28, .bool (decide (((j : Nat) : Int) < ((List.length lx : Nat) : Int))))] [.bool (decide (((j : Nat) : Int) < ((List.length lx : Nat) : Int)))] 1 En56 (by kernel_rfl) (by kernel_rfl) rfl ?_
  intro ac59 En60
  refine from_end (by kernel_rfl) ?_
  refine then_normal ?_
  refine wp_seq ?_
  refine cond_at En60 (t := decide (((j : Nat) : Int) < ((List.length lx : Nat) : Int))) (by kernel_rfl) (fun hc61 => ?_) (fun hc61 => ?_)
  ·
   replace hc61 : ((j : Nat) : Int) < ((List.length lx : Nat) : Int) := of_decide_eq_true hc61
   refine wp_skip ?_
   refine then_normal ?_
   refine wp_seq ?_
   refine wp_block ?_
   refine wp_seq ?_
   refine region_from ?_
   have hb64 : j < List.length lx := (by omega)
   obtain ⟨adr62, had63⟩ := some_of ix.nz hb64
   have hb65 : j < List.length lx := by omega
   obtain ⟨⟨a_x67, c_x67, x67⟩, hx66⟩ : ∃ x, (lx)[j]? = some x := ⟨_, List.getElem?_eq_getElem hb65⟩
   obtain i_x67 := ix.each _ (List.mem_of_getElem? hx66)
   replace i_x67 : InB w [] a_x67 c_x67 x67 := i_x67
   refine from_op (by kernel_rfl) ?_
   refine op_val (d := some 29) (x := Instr.indexAt 64 (.slice ax (List.length lx) cx) (ni j)) (v := .pointer (some (Addr.add adr62 j))) En60 (by kernel_rfl) (Go.Dbr.run_indexsl (e := 22) (sz := 1) (j := j) (jo := j) had63 (by kernel_rfl) (by kernel_rfl) (by omega) hb64 (Nat.mul_one _) _) ?_
   intro ac68 En69
   refine from_op (by kernel_rfl) ?_
   refine op_loadf (d := some 30) (t := 22) (ad := adr62) (ao := ax) (ys := List.flatMap (fun s : Sl UInt8 => s.f) lx) (o := j) (v := .slice a_x67 (List.length x67) c_x67) En69 (by kernel_rfl) rfl (ix.ro.ev Hv57).reads had63 ((flat_get1 (fun _ _ => rfl) hx66).trans rfl) (by kernel_rfl) ?_
   intro ac70 En71
   refine d_pures [(0, .slice ax (List.length lx) cx), (2, .slice none 0 0), (3, ni t), (6, .slice xo (List.length lo) yo), (8, .slice a_x67 (List.length x67) c_x67), (9, .slice ax (List.length lx) cx), (10, .int .i64 ((List.length lx : Nat) : Int)), (11, ni k), (25, .slice ax (List.length lx) cx), (26, .int .i64 ((List.length lx : Nat) : Int)), (27, ni j)] [.slice a_x67 (List.length x67) c_x67] 3 En71 (by kernel_rfl) (by kernel_rfl) rfl ?_
   intro ac72 En73
   refine from_end (by kernel_rfl) ?_
   refine then_normal ?_
   refine region_from ?_
   refine d_pures [(0, .slice ax (List.length lx) cx), (2, .slice none 0 0), (3, ni t), (6, .slice xo (List.length lo) yo), (9, .slice ax (List.length lx) cx), (10, .int .i64 ((List.length lx : Nat) : Int)), (11, ni k), (25, .slice ax (List.length lx) cx), (26, .int .i64 ((List.length lx : Nat) : Int)), (27, ni j), (31, .slice xo (List.length lo) yo), (32, .slice a_x67 (List.length x67) c_x67)] [.slice xo (List.length lo) yo, .slice a_x67 (List.length x67) c_x67] 2 En73 (by kernel_rfl) (by kernel_rfl) rfl ?_
   intro ac74 En75
   refine from_op (by kernel_rfl) ?_
   have hsm76 := i_x67.small
   have hqa := flat_take_le hx66
   rw [← hlo] at hqa
   simp only at hqa
   refine op_append (d := some 33) (t := 22) (tx := 22) (ty := 22) (k := 0) (p := List.length lo) (m := List.length x67) (x := .slice a_x67 (List.length x67) c_x67) (bytes := 1) En75 (by kernel_rfl) Hv57 rfl (bys_len _) (Reads.src (size := 1) (tx := 22) (e' := 5) (by kernel_rfl) (i_x67.ev Hv57).reads (bys_len _) i_x67.nz (bys_one _)) (by kernel_rfl) (z := .int .u8 0) (by kernel_rfl) rfl (by decide) (by omega) (by unfold maxLen; omega) ?_
   intro ac81 wo82 ao77 cp78 En83 Hv84 hnz _
   clear hnz
   rw [← bys_append] at Hv84
   have ehz79 : (List.length lo) + (List.length x67) = List.length (lo ++ x67) := (by first | (simp; done) | (simp; omega) | omega)
   rw [ehz79] at En83
   refine d_pures [(0, .slice ax (List.length lx) cx), (2, .slice none 0 0), (3, ni t), (6, .slice ao77 (List.length (lo ++ x67)) cp78), (9, .slice ax (List.length lx) cx), (10, .int .i64 ((List.length lx : Nat) : Int)), (11, ni k), (25, .slice ax (List.length lx) cx), (26, .int .i64 ((List.length lx : Nat) : Int)), (27, ni j)] [.slice ao77 (List.length (lo ++ x67)) cp78] 4 En83 (by kernel_rfl) (by kernel_rfl) rfl ?_
   intro ac85 En86
   refine from_end (by kernel_rfl) ?_
   refine block_normal ?_
   refine then_normal ?_
   refine region_from ?_
   refine d_pures [(0, .slice ax (List.length lx) cx), (2, .slice none 0 0), (3, ni t), (6, .slice ao77 (List.length (lo ++ x67)) cp78), (9, .slice ax (List.length lx) cx), (10, .int .i64 ((List.length lx : Nat) : Int)), (11, ni k), (25, .slice ax (List.length lx) cx), (26, .int .i64 ((List.length lx : Nat) : Int)), (27, ni j), (34, .int .i64 (IntKind.wrap .i64 (((j : Nat) : Int) + (1 : Int))))] [.int .i64 (IntKind.wrap .i64 (((j : Nat) : Int) + (1 : Int)))] 1 En86 (by kernel_rfl) (by kernel_rfl) rfl ?_
   intro ac87 En88
   rw [Go.Dbr.wr64 (e := ((j : Nat) : Int) + (1 : Int)) (x := ((j + 1 : Nat) : Int)) (by omega) (by omega) (by omega)] at En88
   refine d_pures [(0, .slice ax (List.length lx) cx), (2, .slice none 0 0), (3, ni t), (6, .slice ao77 (List.length (lo ++ x67)) cp78), (9, .slice ax (List.length lx) cx), (10, .int .i64 ((List.length lx : Nat) : Int)), (11, ni k), (25, .slice ax (List.length lx) cx), (26, .int .i64 ((List.length lx : Nat) : Int)), (27, .int .i64 ((j + 1 : Nat) : Int))] [.int .i64 ((j + 1 : Nat) : Int)] 2 En88 (by kernel_rfl) (by kernel_rfl) rfl ?_
   intro ac89 En90
   refine from_end (by kernel_rfl) ?_
   refine then_normal ?_
   refine ⟨_, ⟨j + 1, lo ++ x67, ao77, cp78, rfl, En90.sub (by kernel_rfl), Hv84.pick [0] (by kernel_rfl) (by decide), by omega, by rw [flat_take_succ hx66, hlo]⟩, ?_⟩
   omega
  ·
   replace hc61 : ¬ (((j : Nat) : Int) < ((List.length lx : Nat) : Int)) := of_decide_eq_false hc61
   refine wp_exit ?_
   refine then_exit ?_
   refine then_exit ?_
   refine block_exit ?_
   refine then_normal ?_
   refine wp_seq ?_
   refine region_from ?_
   refine d_pures [(0, .slice ax (List.length lx) cx), (2, .slice xo (List.length lo) yo), (3, ni t), (6, .slice xo (List.length lo) yo), (9, .slice ax (List.length lx) cx), (10, .int .i64 ((List.length lx : Nat) : Int)), (11, ni k), (25, .slice ax (List.length lx) cx), (26, .int .i64 ((List.length lx : Nat) : Int)), (27, ni j)] [.slice xo (List.length lo) yo, .slice xo (List.length lo) yo] 2 En60 (by kernel_rfl) (by kernel_rfl) rfl ?_
   intro ac91 En92
   refine from_end (by kernel_rfl) ?_
   refine then_normal ?_
   refine wp_ret ?_
   refine d_ret1 (t := 2) (v := .slice xo (List.length lo) yo) En92 (by kernel_rfl) (by kernel_rfl) ?_
   have hjj : j = List.length lx := by omega
   subst hjj
   rw [List.take_length] at hlo
   subst hlo
   exact ⟨xo, yo, rfl, Hv57.pick [0] (by kernel_rfl) (by decide)⟩

end Go.Proofs.Ytfeibokonhdgnaa
