/- ShaPieces: its walk. -/
import Derived.Test.YtbpihljkkkeijaaDoorS17
import Derived.Test.YtbpihljkkkeijaaDoorS18
namespace Go.Proofs.YtbpihljkkkeijaaDoor
open Go.Dbr
set_option maxRecDepth 100000
set_option maxHeartbeats 2000000
set_option linter.unusedVariables false
set_option linter.unusedSimpArgs false

def partAt (l : List (Sl UInt8)) (i : Nat) : List UInt8 := match l[i]? with
  | some x => x.l
  | none => []
/-- all bytes up to a piece -/
def allF (l : List (Sl UInt8)) (c : Int) : Nat → List UInt8
  | 0 => []
  | i + 1 => (allF l c i ++ partAt l i) ++ (if ((i : Nat) : Int) = c then [1] else [])
theorem allF_le (l : List (Sl UInt8)) (c : Int) : ∀ i, i ≤ l.length → (allF l c i).length ≤ ((l.take i).map fun x => x.l.length + 1).sum
  | 0, _ => Nat.le_refl _
  | i + 1, h => by
    have ih := allF_le l c i (by omega)
    obtain ⟨x, hx⟩ : ∃ x, l[i]? = some x := ⟨_, List.getElem?_eq_getElem (by omega)⟩
    rw [allF, List.take_add_one, hx, List.map_append, List.sum_append, List.length_append, List.length_append]
    simp only [partAt, hx, Option.toList_some, List.map_cons, List.map_nil, List.sum_cons, List.sum_nil]
    split <;> simp only [List.length_cons, List.length_nil] <;> omega
theorem sum_take_le (l : List (Sl UInt8)) (i : Nat) : ((l.take i).map fun x => x.l.length + 1).sum ≤ (l.map fun x => x.l.length + 1).sum := by
  have h : l = l.take i ++ l.drop i := (List.take_append_drop i l).symm
  have h2 : (l.map fun x => x.l.length + 1).sum = ((l.take i).map fun x => x.l.length + 1).sum + ((l.drop i).map fun x => x.l.length + 1).sum := by
    rw [← List.sum_append, ← List.map_append, List.take_append_drop]
  omega
theorem allF_room {l : List (Sl UInt8)} {c : Int} {i : Nat} {x : Sl UInt8} (hx : l[i]? = some x) : (allF l c i).length + x.l.length + 1 ≤ (l.map fun x => x.l.length + 1).sum := by
  have hi : i < l.length := (List.getElem?_eq_some_iff.1 hx).1
  have h1 := allF_le l c i (by omega)
  have h2 := sum_take_le l (i + 1)
  rw [List.take_add_one, hx, List.map_append, List.sum_append] at h2
  simp only [Option.toList_some, List.map_cons, List.map_nil, List.sum_cons, List.sum_nil] at h2
  omega
theorem flat_len_le : ∀ (l : List (Sl UInt8)), (l.flatMap fun s => s.l).length ≤ (l.map fun x => x.l.length + 1).sum
  | [] => Nat.le_refl _
  | x :: r => by
    have := flat_len_le r
    rw [List.flatMap_cons, List.length_append, List.map_cons, List.sum_cons]
    omega
theorem flat_take_le (l : List (Sl UInt8)) (i : Nat) : ((l.take i).flatMap fun s => s.l).length ≤ (l.map fun x => x.l.length + 1).sum := Nat.le_trans (flat_len_le _) (sum_take_le l i)

theorem join_go (w : World) (ax : Option Addr) (nx cx : Nat) (lx : List (Sl UInt8)) (ex : nx = List.length lx) (ix : InS (fun s : Sl UInt8 => s.f) 24 (fun x : Sl UInt8 => InB w [] x.a x.c x.l) w [] ax cx lx) (hB : (List.map (fun x => List.length x.l + 1) lx).sum ≤ 1048576) : Calls Tryd.prog 24 #[.slice ax nx cx] w fun e w' => ∃ ao co, e = .returned (.slice ao (List.length (List.flatMap (fun s : Sl UInt8 => s.l) lx)) co) ∧ Ev w [] w' [.vec ao co 1 (bys (List.flatMap (fun s : Sl UInt8 => s.l) lx)) 5] := by
 subst ex
 have hs := ix.small
 have hc2 := ix.cap
 refine d_0 [(0, .slice ax (List.length lx) cx)] 18 Go.Proofs.Tryd.func24 Go.Proofs.Tryd.ntmps24 (Heap.nil _) fun act0 En0 Hv0 => ?_
 refine d_s [0,2] [] En0 fun ac1 En2 => ?_
 refine d_s [0,2,3] [] En2 fun ac3 En4 => ?_
 refine wp_seq ?_
 refine d_s [0,2,3,4] [] En4 fun ac5 En6 => ?_
 refine wp_block ?_
 have Hv7 := Ev.nil (sz := 1) (T := 5) Hv0
 refine loop_m (fun ms8 ac wo => ∃ (i : Nat) (a1 : Option Addr) (c1 : Nat), ms8 = (List.length lx - i : Nat) ∧ Env ac 18 [(0, .slice ax (List.length lx) cx), (2, .slice none 0 0), (3, .slice a1 (List.length (List.flatMap (fun s : Sl UInt8 => s.l) (List.take i lx))) c1), (4, ni i)] ∧ Ev w [] wo [.vec a1 c1 1 (bys (List.flatMap (fun s : Sl UInt8 => s.l) (List.take i lx))) 5] ∧ (i ≤ List.length lx)) ⟨_, 0, none, 0, rfl, En6.sb, Hv7.pk [0], by omega⟩ ?_
 rintro mm14 ac10 wo11 ⟨i, a1, c1, rfl, En12, Hv13, hi⟩
 refine wp_seq ?_
 refine d_s [0,2,3,4,8] [] En12 fun ac15 En16 => ?_
 refine c_d (((i : Nat) : Int) < ((List.length lx : Nat) : Int)) En16 (fun hc17 => ?_) (fun hc17 => ?_)
 ·
  refine wp_skip ?_
  refine then_normal ?_
  refine wp_seq ?_
  refine wp_block ?_
  have hb20 : i < List.length lx := (by omega)
  obtain ⟨adr18, had19⟩ := some_of ix.nz hb20
  have hb21 : i < List.length lx := by omega
  obtain ⟨⟨a_x23, c_x23, x23⟩, hx22⟩ : ∃ x, (lx)[i]? = some x := ⟨_, List.getElem?_eq_getElem hb21⟩
  obtain i_x23 := ix.each _ (List.mem_of_getElem? hx22)
  replace i_x23 : InB w [] a_x23 c_x23 x23 := i_x23
  refine region_from ?_
  refine d_k [0,2,3,4,11,12,13] [] 3 En16 fun ac24 En25 => ?_
  refine f_o ?_
  refine q_v (x := Instr.indexAt 30 (.slice ax (List.length lx) cx) (ni i)) (v := .pointer (some (Addr.add adr18 i))) En25 (Go.Dbr.run_indexsl (e := 23) (sz := 1) (j := i) (jo := i) had19 (by kernel_rfl) (by kernel_rfl) (by omega) hb20 (Nat.mul_one _) _) fun ac26 En27 => ?_
  refine f_o ?_
  refine op_loadf (d := some 15) (t := 23) (ad := adr18) (ao := ax) (ys := List.flatMap (fun s : Sl UInt8 => s.f) lx) (o := i) (v := .slice a_x23 (List.length x23) c_x23) En27 (by kernel_rfl) rfl (ix.ro.ev Hv13).reads had19 ((flat_get1 (fun _ _ => rfl) hx22).trans rfl) (by kernel_rfl) ?_
  intro ac28 En29
  refine f_o ?_
  have hsm30 := i_x23.small
  have hfi := flat_take_le lx i
  have hxs := flat_take_le lx (i + 1)
  rw [flat_take_succ hx22, List.length_append] at hxs
  simp only at hxs
  refine op_append (d := some 16) (t := 23) (tx := 23) (ty := 23) (k := 0) (p := List.length (List.flatMap (fun s : Sl UInt8 => s.l) (List.take i lx))) (m := List.length x23) (x := .slice a_x23 (List.length x23) c_x23) (bytes := 1) En29 (by kernel_rfl) Hv13 rfl (bys_len _) (Reads.src (size := 1) (tx := 23) (e' := 5) (by kernel_rfl) (i_x23.ev Hv13).reads (bys_len _) i_x23.nz (bys_one _)) (by kernel_rfl) (z := .int .u8 0) (by kernel_rfl) rfl (by decide) (by omega) (by unfold maxLen; omega) ?_
  intro ac35 wo36 ao31 cp32 En37 Hv38 hnz _
  clear hnz
  rw [← bys_append] at Hv38
  have ehz33 : (List.length (List.flatMap (fun s : Sl UInt8 => s.l) (List.take i lx))) + (List.length x23) = List.length ((List.flatMap (fun s : Sl UInt8 => s.l) (List.take i lx)) ++ x23) := (by first | (simp; done) | (simp; omega) | omega)
  rw [ehz33] at En37
  refine d_e [0,2,3,4] [] En37 fun ac39 En40 => ?_
  refine block_normal ?_
  refine then_normal ?_
  refine d_r [0,2,3,4] [(1, g_n (w_a i 1))] En40 fun ac41 En42 => ?_
  refine then_normal ?_
  have hfs : (List.flatMap (fun s : Sl UInt8 => s.l) (List.take (i + 1) lx)) = (List.flatMap (fun s : Sl UInt8 => s.l) (List.take i lx)) ++ x23 := by rw [flat_take_succ hx22]
  rw [← hfs] at Hv38
  have En43 := Env.fx (t := 3) (v := .slice ao31 (List.length ((List.flatMap (fun s : Sl UInt8 => s.l) (List.take i lx)) ++ x23)) cp32) (u := .slice ao31 (List.length (List.flatMap (fun s : Sl UInt8 => s.l) (List.take (i + 1) lx))) cp32) En42 (by rw [hfs])
  refine ⟨_, ⟨i + 1, ao31, cp32, rfl, En43.sb, Hv38.pk [0], by omega⟩, ?_⟩
  omega
 ·
  refine wp_exit ?_
  refine then_exit ?_
  refine then_exit ?_
  refine block_exit ?_
  refine then_normal ?_
  refine d_s [0,2,3,4] [] En16 fun ac44 En45 => ?_
  refine wp_ret ?_
  refine d_ret1 (t := 2) (v := .slice a1 (List.length (List.flatMap (fun s : Sl UInt8 => s.l) (List.take i lx))) c1) En45 (by kernel_rfl) (by kernel_rfl) ?_
  have hil : i = List.length lx := by omega
  have hae : (List.flatMap (fun s : Sl UInt8 => s.l) (List.take i lx)) = (List.flatMap (fun s : Sl UInt8 => s.l) lx) := by rw [hil, List.take_length]
  have Hf46 := Hv13.pk [0] (M := [.vec a1 c1 1 (bys (List.flatMap (fun s : Sl UInt8 => s.l) (List.take i lx))) 5])
  rw [hae] at Hf46
  exact ⟨_, _, by rw [hae], Hf46⟩

theorem pieces_ok (h : Int) (a_g : Option Addr) (c_g : Nat) (g : List (Sl UInt8)) (c : Int) (w : World) (b_h : (-9223372036854775808 ≤ h ∧ h ≤ 9223372036854775807)) (i_g : InS (fun s : Sl UInt8 => s.f) 24 (fun x : Sl UInt8 => InB w [] x.a x.c x.l) w [] a_g c_g g) (b_c : (-9223372036854775808 ≤ c ∧ c ≤ 9223372036854775807)) (hB : ((List.map (fun x => List.length x.l + 1) g).sum) ≤ 1048576) (hh : (h = 1 ∨ h = 2 ∨ h = 3)) (gk32 : InU32 w [] (some ⟨0, 0, none⟩) 64 K32) (gk64 : InU64 w [] (some ⟨1, 0, none⟩) 80 K64) : Calls Tryd.prog 5 #[.int .i64 h, .slice a_g (List.length g) c_g, .int .i64 c] w fun e w' => e = .returned (.bool true) ∧ Ev w [] w' [] := by
 have hsz : sizeOfH h ≠ 0 := by rcases hh with rfl | rfl | rfl <;> decide
 have hsl := i_g.small
 have hcl := i_g.cap
 have hs64 := size_le h
 refine d_0 [(0, .int .i64 h), (1, .slice a_g (List.length g) c_g), (2, .int .i64 c)] 137 Go.Proofs.Tryd.func5 Go.Proofs.Tryd.ntmps5 (Heap.nil _) fun act0 En0 Hv0 => ?_
 refine wp_seq ?_
 refine d_r [0,1,2,6] [] En0 fun ac1 En2 => ?_
 refine then_normal ?_
 refine wp_seq ?_
 refine region_from ?_
 refine f_o ?_
 refine c_p En2 Hv0 (head5_ok _ ((gk32.ev Hv0).pick [] (by kernel_rfl)) ((gk64.ev Hv0).pick [] (by kernel_rfl))) fun ac7 wo4 En8 Hv9 => ?_
 refine d_e [0,1,2,6,7] [] En8 fun ac10 En11 => ?_
 refine then_normal ?_
 refine wp_seq ?_
 refine region_from ?_
 refine d_k [0,1,2,6,7,17] [] 1 En11 fun ac12 En13 => ?_
 refine f_o ?_
 refine c_0 En13 Hv9 (new_dig _ h hh) ?_
 rintro _ wo16 ⟨bq14, rfl, he17⟩
 refine ⟨_, _, _, rfl, he17, rfl, fun ac19 En20 Hv21 => ?_⟩
 refine d_e [0,1,2,6,7,8] [] En20 fun ac22 En23 => ?_
 refine then_normal ?_
 refine wp_seq ?_
 refine wp_seq ?_
 refine region_from ?_
 refine d_k [0,1,2,6,8,21,23,24] [] 6 En23 fun ac24 En25 => ?_
 refine f_o ?_
 refine c_p En25 Hv21 (size_go _ h) fun ac30 wo27 En31 Hv32 => ?_
 refine d_e [0,1,2,6,8,28] [(7, g_b (show (((sizeOfH h : Nat) : Int) == (0 : Int)) = false from (by first | (rw [hsz]; rfl) | exact beq_eq_false_iff_ne.2 (by omega))))] En31 fun ac33 En34 => ?_
 refine then_normal ?_
 refine c_f En34 ?_
 refine wp_skip ?_
 refine then_normal ?_
 refine wp_seq ?_
 refine wp_seq ?_
 refine d_r [0,1,2,6,8,30] [] En34 fun ac35 En36 => ?_
 refine then_normal ?_
 refine c_f En36 ?_
 refine wp_skip ?_
 refine then_normal ?_
 refine wp_seq ?_
 refine d_r [0,1,2,6,8,9] [] En36 fun ac37 En38 => ?_
 refine then_normal ?_
 refine wp_seq ?_
 refine wp_seq ?_
 refine d_r [0,1,2,6,8,9,10] [] En38 fun ac39 En40 => ?_
 refine then_normal ?_
 refine wp_block ?_
 have Hv41 := Ev.nil (sz := 1) (T := 5) Hv32
 refine loop_m (fun ms42 ac wo => ∃ (i : Nat) (bd : Nat) (ar : Option Addr) (cr : Nat) (a9 : Option Addr) (c9 : Nat), ms42 = (List.length g - i : Nat) ∧ Env ac 137 [(0, .int .i64 h), (1, .slice a_g (List.length g) c_g), (2, .int .i64 c), (8, pt bd), (9, .slice a9 (List.length (allF g c i)) c9), (10, ni i)] ∧ Ev w [] wo [.box bd (([.int .i64 h] : List Value) ++ ((u32s (S32 h (allF g c i))) ++ ((u64s (S64 h (allF g c i))) ++ ([.slice ar (List.length (restH h (allF g c i))) cr, uv64 (UInt64.ofNat (List.length (allF g c i)))] : List Value)))) 58, .vec ar cr 1 (bys (restH h (allF g c i))) 5, .vec a9 c9 1 (bys (allF g c i)) 5] ∧ (i ≤ List.length g)) ⟨_, 0, bq14, none, 0, none, 0, rfl, En40.sb, Hv41.pk [0, 1, 2], by omega⟩ ?_
 rintro mm48 ac44 wo45 ⟨i, bd, ar, cr, a9, c9, rfl, En46, Hv47, hi⟩
 refine wp_seq ?_
 refine wp_seq ?_
 refine d_r [0,1,2,8,9,10,39] [] En46 fun ac49 En50 => ?_
 refine then_normal ?_
 refine c_d (((i : Nat) : Int) < ((List.length g : Nat) : Int)) En50 (fun hc51 => ?_) (fun hc51 => ?_)
 ·
  refine wp_skip ?_
  refine then_normal ?_
  refine wp_seq ?_
  refine wp_block ?_
  refine wp_seq ?_
  refine region_from ?_
  refine f_o ?_
  refine op_lit (d := some 42) (t := 23) (T := 5) (m := 0) (parts := #[]) (xs := bys []) (sz := 1) En50 (by kernel_rfl) (by kernel_rfl) rfl (by decide) Hv47 ?_
  intro ac53 wo54 bk52 En55 Hv56
  have hb59 : i < List.length g := (by omega)
  obtain ⟨adr57, had58⟩ := some_of i_g.nz hb59
  have hb60 : i < List.length g := by omega
  obtain ⟨⟨a_x62, c_x62, x62⟩, hx61⟩ : ∃ x, (g)[i]? = some x := ⟨_, List.getElem?_eq_getElem hb60⟩
  obtain i_x62 := i_g.each _ (List.mem_of_getElem? hx61)
  replace i_x62 : InB w [] a_x62 c_x62 x62 := i_x62
  refine d_k [0,1,2,8,9,10,42,43,44] [] 3 En55 fun ac63 En64 => ?_
  refine f_o ?_
  refine q_v (x := Instr.indexAt 30 (.slice a_g (List.length g) c_g) (ni i)) (v := .pointer (some (Addr.add adr57 i))) En64 (Go.Dbr.run_indexsl (e := 23) (sz := 1) (j := i) (jo := i) had58 (by kernel_rfl) (by kernel_rfl) (by omega) hb59 (Nat.mul_one _) _) fun ac65 En66 => ?_
  refine f_o ?_
  refine op_loadf (d := some 46) (t := 23) (ad := adr57) (ao := a_g) (ys := List.flatMap (fun s : Sl UInt8 => s.f) g) (o := i) (v := .slice a_x62 (List.length x62) c_x62) En66 (by kernel_rfl) rfl (i_g.ro.ev Hv56).reads had58 ((flat_get1 (fun _ _ => rfl) hx61).trans rfl) (by kernel_rfl) ?_
  intro ac67 En68
  refine f_o ?_
  have hsm69 := i_x62.small
  refine op_append (d := some 47) (t := 23) (tx := 23) (ty := 23) (k := 3) (p := 0) (m := List.length x62) (x := .slice a_x62 (List.length x62) c_x62) (bytes := 1) En68 (by kernel_rfl) Hv56 rfl rfl (Reads.src (size := 1) (tx := 23) (e' := 5) (by kernel_rfl) (i_x62.ev Hv56).reads (bys_len _) i_x62.nz (bys_one _)) (by kernel_rfl) (z := .int .u8 0) (by kernel_rfl) rfl (by decide) (by first | omega | (simp; omega)) (by unfold maxLen; omega) ?_
  intro ac74 wo75 ao70 cp71 En76 Hv77 hnz _
  clear hnz
  rw [bys_nil_append] at Hv77
  have ehz72 : 0 + (List.length x62) = List.length x62 := (by first | (simp; done) | (simp; omega) | omega)
  rw [ehz72] at En76
  refine d_e [0,1,2,8,9,10,11] [] En76 fun ac78 En79 => ?_
  refine then_normal ?_
  refine wp_seq ?_
  have hrm := allF_room (c := c) hx61
  simp only at hrm
  have hr1 := restH_lt h (allF g c i)
  refine region_from ?_
  refine d_k [0,1,2,8,9,10,11,48,49] [] 2 En79 fun ac80 En81 => ?_
  refine f_o ?_
  refine c_l [0,1] (M := [.box bd (([.int .i64 h] : List Value) ++ ((u32s (S32 h (allF g c i))) ++ ((u64s (S64 h (allF g c i))) ++ ([.slice ar (List.length (restH h (allF g c i))) cr, uv64 (UInt64.ofNat (List.length (allF g c i)))] : List Value)))) 58, .vec ar cr 1 (bys (restH h (allF g c i))) 5]) En81 Hv77 (fun hM83 => write_go _ bd h hh (allF g c i) ar cr ao70 (List.length x62) cp71 x62 (by first | rfl | (simp; done) | (simp; omega) | omega) (bys_in Hv77.heap (k := 3) rfl [0, 1] (by kernel_rfl) rfl (by first | omega | (simp; done) | (simp; omega))) (by first | omega | (simp only [List.length_cons, List.length_nil]; omega)) ((gk32.ev Hv77).pick [0, 1] (by kernel_rfl)) ((gk64.ev Hv77).pick [0, 1] (by kernel_rfl)) hM83) ?_
  rintro _ wo84 ⟨aoq82, coq82, rfl, he85⟩
  refine ⟨_, _, [.box bd (([.int .i64 h] : List Value) ++ ((u32s (S32 h ((allF g c i) ++ x62))) ++ ((u64s (S64 h ((allF g c i) ++ x62))) ++ ([.slice aoq82 (List.length (restH h ((allF g c i) ++ x62))) coq82, uv64 (UInt64.ofNat (List.length ((allF g c i) ++ x62)))] : List Value)))) 58, .vec aoq82 coq82 1 (bys (restH h ((allF g c i) ++ x62))) 5, .vec a9 c9 1 (bys (allF g c i)) 5, .vec ao70 cp71 1 (bys x62) 5], rfl, he85, by kernel_rfl, fun ac87 En88 Hv89 => ?_⟩
  refine f_e ?_
  refine then_normal ?_
  refine wp_seq ?_
  refine wp_seq ?_
  refine d_r [0,1,2,8,9,10,11,12] [] En88 fun ac90 En91 => ?_
  refine then_normal ?_
  refine wp_block ?_
  refine loop_m (fun ms92 ac wo => ∃ (k1 : Nat) (o1 : List UInt8), ms92 = (List.length x62 - k1 : Nat) ∧ Env ac 137 [(0, .int .i64 h), (1, .slice a_g (List.length g) c_g), (2, .int .i64 c), (8, pt bd), (9, .slice a9 (List.length (allF g c i)) c9), (10, ni i), (11, .slice ao70 (List.length x62) cp71), (12, ni k1)] ∧ Ev w [] wo [.vec ao70 cp71 1 (bys o1) 5, .box bd (([.int .i64 h] : List Value) ++ ((u32s (S32 h ((allF g c i) ++ x62))) ++ ((u64s (S64 h ((allF g c i) ++ x62))) ++ ([.slice aoq82 (List.length (restH h ((allF g c i) ++ x62))) coq82, uv64 (UInt64.ofNat (List.length ((allF g c i) ++ x62)))] : List Value)))) 58, .vec aoq82 coq82 1 (bys (restH h ((allF g c i) ++ x62))) 5, .vec a9 c9 1 (bys (allF g c i)) 5] ∧ (List.length o1 = List.length x62) ∧ (k1 ≤ List.length x62)) ⟨_, 0, x62, rfl, En91.sb, Hv89.pk [3, 0, 1, 2], by first | rfl | (simp; done), by omega⟩ ?_
  rintro mm98 ac94 wo95 ⟨k1, o1, rfl, En96, Hv97, hlo1, hkk1⟩
  refine wp_seq ?_
  refine wp_seq ?_
  refine d_r [0,1,2,8,9,10,11,12,54] [] En96 fun ac99 En100 => ?_
  refine then_normal ?_
  refine c_d (((k1 : Nat) : Int) < ((List.length x62 : Nat) : Int)) En100 (fun hc101 => ?_) (fun hc101 => ?_)
  ·
   refine wp_skip ?_
   refine then_normal ?_
   refine wp_seq ?_
   refine wp_block ?_
   have hb104 : k1 < List.length x62 := (by omega)
   obtain ⟨adr102, had103⟩ := some_of (fun e => by have h := (bys_vnz Hv97.heap (k := 0) rfl) e; first | omega | (rw [List.length_take] at h; omega) | (simp at h; omega)) hb104
   refine region_from ?_
   refine d_k [0,1,2,8,9,10,11,12,57,58] [] 2 En100 fun ac105 En106 => ?_
   refine f_o ?_
   refine q_v (x := Instr.indexAt 23 (.slice ao70 (List.length x62) cp71) (ni k1)) (v := .pointer (some (Addr.add adr102 k1))) En106 (Go.Dbr.run_indexsl (e := 5) (sz := 1) (j := k1) (jo := k1) had103 (by kernel_rfl) (by kernel_rfl) (by omega) hb104 (Nat.mul_one _) _) fun ac107 En108 => ?_
   refine f_o ?_
   have hb109 : k1 < List.length o1 := by omega
   refine op_loadel (d := some 60) (t := 5) (ad := adr102) (ao := ao70) (xs := bys o1) (j := k1) (v := bv (List.getD o1 k1 0)) En108 (by kernel_rfl) (Hv97.heap.reads (k := 0) rfl) had103 (bys_getD hb109) (by kernel_rfl) ?_
   intro ac110 En111
   have hb114 : k1 < List.length x62 := (by omega)
   obtain ⟨adr112, had113⟩ := some_of (fun e => by have h := (bys_vnz Hv97.heap (k := 0) rfl) e; first | omega | (rw [List.length_take] at h; omega) | (simp at h; omega)) hb114
   refine d_k [0,1,2,8,9,10,11,12,57,58,61] [(4, g_i .u8 (Go.Dbr.u8_add (x := List.getD o1 k1 0) (y := (1 : UInt8)) rfl rfl))] 5 En111 fun ac115 En116 => ?_
   refine f_o ?_
   refine q_v (x := Instr.indexAt 23 (.slice ao70 (List.length x62) cp71) (ni k1)) (v := .pointer (some (Addr.add adr112 k1))) En116 (Go.Dbr.run_indexsl (e := 5) (sz := 1) (j := k1) (jo := k1) had113 (by kernel_rfl) (by kernel_rfl) (by omega) hb114 (Nat.mul_one _) _) fun ac117 En118 => ?_
   refine f_o ?_
   refine op_storeel (d := none) (t := 5) (ad := adr112) (ao := ao70) (k := 0) (cap := cp71) (sz := 1) (j := k1) (xs := bys o1) (v := bv ((List.getD o1 k1 0) + (1 : UInt8))) En118 (by kernel_rfl) Hv97 rfl had113 (by rw [bys_length]; first | omega | (simp; done) | (simp; omega)) (by kernel_rfl) rfl ?_
   intro ac119 wo120  En121 Hv122
   rw [bys_set] at Hv122
   refine f_e ?_
   refine block_normal ?_
   refine then_normal ?_
   refine d_r [0,1,2,8,9,10,11,12] [(1, g_n (w_a k1 1))] En121 fun ac123 En124 => ?_
   refine then_normal ?_
   refine ⟨_, ⟨k1 + 1, (List.set o1 k1 ((List.getD o1 k1 0) + (1 : UInt8))), rfl, En124.sb, Hv122.pk [0, 1, 2, 3], by simp [hlo1], by omega⟩, ?_⟩
   omega
  ·
   refine wp_exit ?_
   refine then_exit ?_
   refine then_exit ?_
   refine block_exit ?_
   refine then_normal ?_
   refine wp_seq ?_
   have hb127 : i < List.length g := (by omega)
   obtain ⟨adr125, had126⟩ := some_of i_g.nz hb127
   refine region_from ?_
   refine d_k [0,1,2,8,9,10,11,12,63,64,65] [] 3 En100 fun ac128 En129 => ?_
   refine f_o ?_
   refine q_v (x := Instr.indexAt 30 (.slice a_g (List.length g) c_g) (ni i)) (v := .pointer (some (Addr.add adr125 i))) En129 (Go.Dbr.run_indexsl (e := 23) (sz := 1) (j := i) (jo := i) had126 (by kernel_rfl) (by kernel_rfl) (by omega) hb127 (Nat.mul_one _) _) fun ac130 En131 => ?_
   refine f_o ?_
   refine op_loadf (d := some 67) (t := 23) (ad := adr125) (ao := a_g) (ys := List.flatMap (fun s : Sl UInt8 => s.f) g) (o := i) (v := .slice a_x62 (List.length x62) c_x62) En131 (by kernel_rfl) rfl (i_g.ro.ev Hv97).reads had126 ((flat_get1 (fun _ _ => rfl) hx61).trans rfl) (by kernel_rfl) ?_
   intro ac132 En133
   refine f_o ?_
   have hsm134 := i_x62.small
   refine op_append (d := some 68) (t := 23) (tx := 23) (ty := 23) (k := 3) (p := List.length (allF g c i)) (m := List.length x62) (x := .slice a_x62 (List.length x62) c_x62) (bytes := 1) En133 (by kernel_rfl) Hv97 rfl (bys_len _) (Reads.src (size := 1) (tx := 23) (e' := 5) (by kernel_rfl) (i_x62.ev Hv97).reads (bys_len _) i_x62.nz (bys_one _)) (by kernel_rfl) (z := .int .u8 0) (by kernel_rfl) rfl (by decide) (by first | omega | (simp; omega)) (by unfold maxLen; omega) ?_
   intro ac139 wo140 ao135 cp136 En141 Hv142 hnz _
   clear hnz
   rw [← bys_append] at Hv142
   have ehz137 : (List.length (allF g c i)) + (List.length x62) = List.length ((allF g c i) ++ x62) := (by first | (simp; done) | (simp; omega) | omega)
   rw [ehz137] at En141
   refine d_e [0,1,2,8,9,10,11,12] [] En141 fun ac143 En144 => ?_
   refine then_normal ?_
   refine wp_seq ?_
   refine region_from ?_
   refine d_k [0,1,2,8,9,10,11,12,69] [] 1 En144 fun ac145 En146 => ?_
   refine f_o ?_
   refine c_l [1,2] (M := [.box bd (([.int .i64 h] : List Value) ++ ((u32s (S32 h ((allF g c i) ++ x62))) ++ ((u64s (S64 h ((allF g c i) ++ x62))) ++ ([.slice aoq82 (List.length (restH h ((allF g c i) ++ x62))) coq82, uv64 (UInt64.ofNat (List.length ((allF g c i) ++ x62)))] : List Value)))) 58, .vec aoq82 coq82 1 (bys (restH h ((allF g c i) ++ x62))) 5]) En146 Hv142 (fun hM148 => sum_go _ bd h hh ((allF g c i) ++ x62) aoq82 coq82 ((gk32.ev Hv142).pick [1, 2] (by kernel_rfl)) ((gk64.ev Hv142).pick [1, 2] (by kernel_rfl)) hM148) ?_
   rintro _ wo149 ⟨aoq147, coq147, rfl, he150⟩
   refine ⟨_, _, [.box bd (([.int .i64 h] : List Value) ++ ((u32s (S32 h ((allF g c i) ++ x62))) ++ ((u64s (S64 h ((allF g c i) ++ x62))) ++ ([.slice aoq82 (List.length (restH h ((allF g c i) ++ x62))) coq82, uv64 (UInt64.ofNat (List.length ((allF g c i) ++ x62)))] : List Value)))) 58, .vec aoq82 coq82 1 (bys (restH h ((allF g c i) ++ x62))) 5, .vec aoq147 coq147 1 (bys (sumF h ((allF g c i) ++ x62))) 5, .vec ao70 cp71 1 (bys o1) 5, .vec ao135 cp136 1 (bys ((allF g c i) ++ x62)) 5], rfl, he150, by kernel_rfl, fun ac152 En153 Hv154 => ?_⟩
   refine d_e [0,1,2,8,9,10,11,12,13] [] En153 fun ac155 En156 => ?_
   have hls := sumF_len hh ((allF g c i) ++ x62)
   refine then_normal ?_
   refine wp_seq ?_
   refine wp_seq ?_
   refine r_c (fun ac wo => Env ac 137 [(0, .int .i64 h), (1, .slice a_g (List.length g) c_g), (2, .int .i64 c), (8, pt bd), (9, .slice ao135 (List.length ((allF g c i) ++ x62)) cp136), (10, ni i), (11, .slice ao70 (List.length x62) cp71), (12, ni k1), (13, .slice aoq147 (List.length (sumF h ((allF g c i) ++ x62))) coq147), (78, .bool false)] ∧ Ev w [] wo [.box bd (([.int .i64 h] : List Value) ++ ((u32s (S32 h ((allF g c i) ++ x62))) ++ ((u64s (S64 h ((allF g c i) ++ x62))) ++ ([.slice aoq82 (List.length (restH h ((allF g c i) ++ x62))) coq82, uv64 (UInt64.ofNat (List.length ((allF g c i) ++ x62)))] : List Value)))) 58, .vec aoq82 coq82 1 (bys (restH h ((allF g c i) ++ x62))) 5, .vec aoq147 coq147 1 (bys (sumF h ((allF g c i) ++ x62))) 5, .vec ao70 cp71 1 (bys o1) 5, .vec ao135 cp136 1 (bys ((allF g c i) ++ x62)) 5]) ?_ ?_
   ·
    refine h_s (fun wv => Ev w [] wv [.vec aoq147 coq147 1 (bys (sumF h ((allF g c i) ++ x62))) 5]) [] 8 ?_
    have wo157 := Hv154.trans (Ev.drew Hv154.heap)
    refine q_s [0] [] 7 En156 (wo157.pk [2]) fun ac241 En242 => ?_
    refine q_r 1 (s := convert 23 9 (.slice aoq147 (List.length (sumF h ((allF g c i) ++ x62))) coq147)) (v := .string (bstr (sumF h ((allF g c i) ++ x62)))) En242 (fun w hS => run_str2 (e := 5) (bs := sumF h ((allF g c i) ++ x62)) rfl (by kernel_rfl) (by kernel_rfl) (by kernel_rfl) (hS.heap.reads (k := 0) rfl) (bys_vnz hS.heap (k := 0) rfl)) (wo157.pk [2]) fun ac243 En244 => ?_
    refine q_s [2,3] [] 4 En244 (wo157.pk [2]) fun ac245 En246 => ?_
    refine q_t 4 ?_
    refine op_lit (d := some 75) (t := 30) (T := 23) (m := 1) (parts := #[(0, .slice ao135 (List.length ((allF g c i) ++ x62)) cp136)]) (xs := [.slice ao135 (List.length ((allF g c i) ++ x62)) cp136]) (sz := 1) En246 (by kernel_rfl) (by kernel_rfl) rfl (by decide) wo157 ?_
    intro ac248 wo249 bk247 En250 Hv251
    refine ⟨fun _ => Hv251.pk [2], ?_⟩
    refine q_t 5 ?_
    refine c_0 En250 Hv251 (of_all _ h hh (some ⟨bk247, 0, none⟩) 1 1 ([⟨ao135, cp136, (allF g c i) ++ x62⟩] : List (Sl UInt8)) (by first | rfl | (simp; done) | (simp; omega) | omega) ⟨Hv251.heap.ro (k := 5) rfl [] (by kernel_rfl) rfl, (fun e => by cases e), (by simp), (by simp), (List.forall_mem_cons.2 ⟨(bys_in Hv251.heap (k := 4) rfl [] (by kernel_rfl) rfl (by first | decide | (dsimp only; omega) | (simp; done) | (simp; omega) | omega)), (fun x h => absurd h List.not_mem_nil)⟩)⟩ ((gk32.ev Hv251).pick [] (by kernel_rfl)) ((gk64.ev Hv251).pick [] (by kernel_rfl))) ?_
    rintro _ wo254 ⟨aoq252, coq252, rfl, he255⟩
    refine ⟨_, _, _, rfl, he255, rfl, fun ac257 En258 Hv259 => ?_⟩
    refine ⟨fun _ => Hv259.pk [3], ?_⟩
    refine q_t 6 ?_
    refine op_str (d := some 77) (src := 23) (dst := 9) (e := 5) (ao := aoq252) (cap := coq252) (p := List.length (sumF h (List.flatMap (fun s : Sl UInt8 => s.l) ([⟨ao135, cp136, (allF g c i) ++ x62⟩] : List (Sl UInt8))))) (bs := sumF h (List.flatMap (fun s : Sl UInt8 => s.l) ([⟨ao135, cp136, (allF g c i) ++ x62⟩] : List (Sl UInt8)))) En258 (by kernel_rfl) rfl (by kernel_rfl) (by kernel_rfl) (by kernel_rfl) (Hv259.heap.reads (k := 0) rfl) (bys_vnz Hv259.heap (k := 0) rfl) ?_
    intro ac260 En261
    refine ⟨fun _ => Hv259.pk [3], ?_⟩
    refine q_s [7] [(7, g_v (show (.bool (!(ByteArray.toList (bstr (sumF h ((allF g c i) ++ x62))) == ByteArray.toList (bstr (sumF h (List.flatMap (fun s : Sl UInt8 => s.l) ([⟨ao135, cp136, (allF g c i) ++ x62⟩] : List (Sl UInt8))))))) : Value) = .bool false by rw [Go.Dbr.bstr_eq (sumF h ((allF g c i) ++ x62)) (sumF h (List.flatMap (fun s : Sl UInt8 => s.l) ([⟨ao135, cp136, (allF g c i) ++ x62⟩] : List (Sl UInt8)))), show (!((sumF h ((allF g c i) ++ x62)) == (sumF h (List.flatMap (fun s : Sl UInt8 => s.l) ([⟨ao135, cp136, (allF g c i) ++ x62⟩] : List (Sl UInt8)))))) = false from (by simp)] <;> rfl))] 0 En261 (Hv259.pk [3]) fun ac262 En263 => ?_
    exact h_e ⟨En263.sb, Hv259.pk [1, 2, 3, 4, 5]⟩
   rintro ac264 wo265 ⟨En266, Hv267⟩
   refine then_normal ?_
   refine c_f En266 ?_
   refine wp_skip ?_
   refine then_normal ?_
   refine wp_seq ?_
   refine wp_seq ?_
   refine d_r [0,1,2,8,9,10,11,12,13,14] [] En266 fun ac268 En269 => ?_
   refine then_normal ?_
   refine wp_block ?_
   refine loop_m (fun ms270 ac wo => ∃ (k2 : Nat) (o2 : List UInt8), ms270 = (List.length (sumF h ((allF g c i) ++ x62)) - k2 : Nat) ∧ Env ac 137 [(0, .int .i64 h), (1, .slice a_g (List.length g) c_g), (2, .int .i64 c), (8, pt bd), (9, .slice ao135 (List.length ((allF g c i) ++ x62)) cp136), (10, ni i), (11, .slice ao70 (List.length x62) cp71), (12, ni k1), (13, .slice aoq147 (List.length (sumF h ((allF g c i) ++ x62))) coq147), (14, ni k2)] ∧ Ev w [] wo [.vec aoq147 coq147 1 (bys o2) 5, .box bd (([.int .i64 h] : List Value) ++ ((u32s (S32 h ((allF g c i) ++ x62))) ++ ((u64s (S64 h ((allF g c i) ++ x62))) ++ ([.slice aoq82 (List.length (restH h ((allF g c i) ++ x62))) coq82, uv64 (UInt64.ofNat (List.length ((allF g c i) ++ x62)))] : List Value)))) 58, .vec aoq82 coq82 1 (bys (restH h ((allF g c i) ++ x62))) 5, .vec ao70 cp71 1 (bys o1) 5, .vec ao135 cp136 1 (bys ((allF g c i) ++ x62)) 5] ∧ (List.length o2 = List.length (sumF h ((allF g c i) ++ x62))) ∧ (k2 ≤ List.length (sumF h ((allF g c i) ++ x62)))) ⟨_, 0, (sumF h ((allF g c i) ++ x62)), rfl, En269.sb, Hv267.pk [2, 0, 1, 3, 4], by first | rfl | (simp; done), by omega⟩ ?_
   rintro mm276 ac272 wo273 ⟨k2, o2, rfl, En274, Hv275, hlo2, hkk2⟩
   refine wp_seq ?_
   refine wp_seq ?_
   refine d_r [0,1,2,8,9,10,11,12,13,14,82] [] En274 fun ac277 En278 => ?_
   refine then_normal ?_
   refine c_d (((k2 : Nat) : Int) < ((List.length (sumF h ((allF g c i) ++ x62)) : Nat) : Int)) En278 (fun hc279 => ?_) (fun hc279 => ?_)
   ·
    refine wp_skip ?_
    refine then_normal ?_
    refine wp_seq ?_
    refine wp_block ?_
    have hb282 : k2 < List.length (sumF h ((allF g c i) ++ x62)) := (by omega)
    obtain ⟨adr280, had281⟩ := some_of (fun e => by have h := (bys_vnz Hv275.heap (k := 0) rfl) e; first | omega | (rw [List.length_take] at h; omega) | (simp at h; omega)) hb282
    refine region_from ?_
    refine d_k [0,1,2,8,9,10,11,12,13,14,85,86] [] 2 En278 fun ac283 En284 => ?_
    refine f_o ?_
    refine q_v (x := Instr.indexAt 23 (.slice aoq147 (List.length (sumF h ((allF g c i) ++ x62))) coq147) (ni k2)) (v := .pointer (some (Addr.add adr280 k2))) En284 (Go.Dbr.run_indexsl (e := 5) (sz := 1) (j := k2) (jo := k2) had281 (by kernel_rfl) (by kernel_rfl) (by omega) hb282 (Nat.mul_one _) _) fun ac285 En286 => ?_
    refine f_o ?_
    have hb287 : k2 < List.length o2 := by omega
    refine op_loadel (d := some 88) (t := 5) (ad := adr280) (ao := aoq147) (xs := bys o2) (j := k2) (v := bv (List.getD o2 k2 0)) En286 (by kernel_rfl) (Hv275.heap.reads (k := 0) rfl) had281 (bys_getD hb287) (by kernel_rfl) ?_
    intro ac288 En289
    have hb292 : k2 < List.length (sumF h ((allF g c i) ++ x62)) := (by omega)
    obtain ⟨adr290, had291⟩ := some_of (fun e => by have h := (bys_vnz Hv275.heap (k := 0) rfl) e; first | omega | (rw [List.length_take] at h; omega) | (simp at h; omega)) hb292
    refine d_k [0,1,2,8,9,10,11,12,13,14,85,86,89] [(4, g_i .u8 (Go.Dbr.u8_add (x := List.getD o2 k2 0) (y := (1 : UInt8)) rfl rfl))] 5 En289 fun ac293 En294 => ?_
    refine f_o ?_
    refine q_v (x := Instr.indexAt 23 (.slice aoq147 (List.length (sumF h ((allF g c i) ++ x62))) coq147) (ni k2)) (v := .pointer (some (Addr.add adr290 k2))) En294 (Go.Dbr.run_indexsl (e := 5) (sz := 1) (j := k2) (jo := k2) had291 (by kernel_rfl) (by kernel_rfl) (by omega) hb292 (Nat.mul_one _) _) fun ac295 En296 => ?_
    refine f_o ?_
    refine op_storeel (d := none) (t := 5) (ad := adr290) (ao := aoq147) (k := 0) (cap := coq147) (sz := 1) (j := k2) (xs := bys o2) (v := bv ((List.getD o2 k2 0) + (1 : UInt8))) En296 (by kernel_rfl) Hv275 rfl had291 (by rw [bys_length]; first | omega | (simp; done) | (simp; omega)) (by kernel_rfl) rfl ?_
    intro ac297 wo298  En299 Hv300
    rw [bys_set] at Hv300
    refine f_e ?_
    refine block_normal ?_
    refine then_normal ?_
    refine d_r [0,1,2,8,9,10,11,12,13,14] [(1, g_n (w_a k2 1))] En299 fun ac301 En302 => ?_
    refine then_normal ?_
    refine ⟨_, ⟨k2 + 1, (List.set o2 k2 ((List.getD o2 k2 0) + (1 : UInt8))), rfl, En302.sb, Hv300.pk [0, 1, 2, 3, 4], by simp [hlo2], by omega⟩, ?_⟩
    omega
   ·
    refine wp_exit ?_
    refine then_exit ?_
    refine then_exit ?_
    refine block_exit ?_
    refine then_normal ?_
    refine wp_seq ?_
    refine d_r [0,1,2,8,9,10,11,12,13,14,93] [] En278 fun ac303 En304 => ?_
    refine then_normal ?_
    refine c_e ((i : Nat) : Int) c En304 (fun hc305 => ?_) (fun hc305 => ?_)
    ·
     refine wp_seq ?_
     refine region_from ?_
     refine d_k [0,1,2,8,9,10,11,12,13,14,94] [] 1 En304 fun ac306 En307 => ?_
     refine f_o ?_
     refine c_l [1,2] (M := [.box bd (([.int .i64 h] : List Value) ++ ((u32s (S32 h ((allF g c i) ++ x62))) ++ ((u64s (S64 h ((allF g c i) ++ x62))) ++ ([.slice aoq82 (List.length (restH h ((allF g c i) ++ x62))) coq82, uv64 (UInt64.ofNat (List.length ((allF g c i) ++ x62)))] : List Value)))) 58, .vec aoq82 coq82 1 (bys (restH h ((allF g c i) ++ x62))) 5]) En307 Hv275 (fun hM309 => clone_go _ bd h ((allF g c i) ++ x62) aoq82 coq82 hM309) ?_
     rintro _ wo310 ⟨bq308, aoq308, coq308, rfl, he311⟩
     refine ⟨_, _, [.box bd (([.int .i64 h] : List Value) ++ ((u32s (S32 h ((allF g c i) ++ x62))) ++ ((u64s (S64 h ((allF g c i) ++ x62))) ++ ([.slice aoq82 (List.length (restH h ((allF g c i) ++ x62))) coq82, uv64 (UInt64.ofNat (List.length ((allF g c i) ++ x62)))] : List Value)))) 58, .vec aoq82 coq82 1 (bys (restH h ((allF g c i) ++ x62))) 5, .box bq308 (([.int .i64 h] : List Value) ++ ((u32s (S32 h ((allF g c i) ++ x62))) ++ ((u64s (S64 h ((allF g c i) ++ x62))) ++ ([.slice aoq308 (List.length (restH h ((allF g c i) ++ x62))) coq308, uv64 (UInt64.ofNat (List.length ((allF g c i) ++ x62)))] : List Value)))) 58, .vec aoq308 coq308 1 (bys (restH h ((allF g c i) ++ x62))) 5, .vec aoq147 coq147 1 (bys o2) 5, .vec ao70 cp71 1 (bys o1) 5, .vec ao135 cp136 1 (bys ((allF g c i) ++ x62)) 5], rfl, he311, by kernel_rfl, fun ac313 En314 Hv315 => ?_⟩
     refine d_e [0,1,2,8,9,10,11,12,13,14,15] [] En314 fun ac316 En317 => ?_
     refine then_normal ?_
     refine wp_seq ?_
     refine wp_seq ?_
     refine d_r [0,1,2,8,9,10,11,12,13,14,15,97] [] En317 fun ac318 En319 => ?_
     refine then_normal ?_
     refine c_f En319 ?_
     refine wp_skip ?_
     refine then_normal ?_
     refine wp_seq ?_
     have hr2 := restH_lt h ((allF g c i) ++ x62)
     refine region_from ?_
     refine d_k [0,1,2,8,9,10,11,12,13,14,15,98] [] 1 En319 fun ac320 En321 => ?_
     refine f_o ?_
     refine op_lit (d := some 99) (t := 23) (T := 5) (m := 1) (parts := #[(0, .int .u8 1)]) (xs := bys [(1 : UInt8)]) (sz := 1) En321 (by kernel_rfl) (by kernel_rfl) rfl (by decide) Hv315 ?_
     intro ac323 wo324 bk322 En325 Hv326
     refine f_o ?_
     refine c_l [2,3] (M := [.box bq308 (([.int .i64 h] : List Value) ++ ((u32s (S32 h ((allF g c i) ++ x62))) ++ ((u64s (S64 h ((allF g c i) ++ x62))) ++ ([.slice aoq308 (List.length (restH h ((allF g c i) ++ x62))) coq308, uv64 (UInt64.ofNat (List.length ((allF g c i) ++ x62)))] : List Value)))) 58, .vec aoq308 coq308 1 (bys (restH h ((allF g c i) ++ x62))) 5]) En325 Hv326 (fun hM328 => write_go _ bq308 h hh ((allF g c i) ++ x62) aoq308 coq308 (some ⟨bk322, 0, none⟩) 1 1 [(1 : UInt8)] (by first | rfl | (simp; done) | (simp; omega) | omega) (bys_in Hv326.heap (k := 7) rfl [2, 3] (by kernel_rfl) rfl (by first | omega | (simp; done) | (simp; omega))) (by first | omega | (simp only [List.length_cons, List.length_nil]; omega)) ((gk32.ev Hv326).pick [2, 3] (by kernel_rfl)) ((gk64.ev Hv326).pick [2, 3] (by kernel_rfl)) hM328) ?_
     rintro _ wo329 ⟨aoq327, coq327, rfl, he330⟩
     refine ⟨_, _, [.box bq308 (([.int .i64 h] : List Value) ++ ((u32s (S32 h (((allF g c i) ++ x62) ++ [(1 : UInt8)]))) ++ ((u64s (S64 h (((allF g c i) ++ x62) ++ [(1 : UInt8)]))) ++ ([.slice aoq327 (List.length (restH h (((allF g c i) ++ x62) ++ [(1 : UInt8)]))) coq327, uv64 (UInt64.ofNat (List.length (((allF g c i) ++ x62) ++ [(1 : UInt8)])))] : List Value)))) 58, .vec aoq327 coq327 1 (bys (restH h (((allF g c i) ++ x62) ++ [(1 : UInt8)]))) 5, .box bd (([.int .i64 h] : List Value) ++ ((u32s (S32 h ((allF g c i) ++ x62))) ++ ((u64s (S64 h ((allF g c i) ++ x62))) ++ ([.slice aoq82 (List.length (restH h ((allF g c i) ++ x62))) coq82, uv64 (UInt64.ofNat (List.length ((allF g c i) ++ x62)))] : List Value)))) 58, .vec aoq82 coq82 1 (bys (restH h ((allF g c i) ++ x62))) 5, .vec aoq147 coq147 1 (bys o2) 5, .vec ao70 cp71 1 (bys o1) 5, .vec ao135 cp136 1 (bys ((allF g c i) ++ x62)) 5, .vec (some ⟨bk322, 0, none⟩) 1 1 (bys [(1 : UInt8)]) 5], rfl, he330, by kernel_rfl, fun ac332 En333 Hv334 => ?_⟩
     refine f_e ?_
     refine then_normal ?_
     refine wp_seq ?_
     refine d_r [0,1,2,8,9,10,11,12,13,14,15] [] En333 fun ac335 En336 => ?_
     refine then_normal ?_
     refine wp_seq ?_
     refine region_from ?_
     refine d_k [0,1,2,8,9,10,11,12,13,14,15,103] [] 1 En336 fun ac337 En338 => ?_
     refine f_o ?_
     refine op_lit (d := some 104) (t := 23) (T := 5) (m := 1) (parts := #[(0, .int .u8 1)]) (xs := bys [(1 : UInt8)]) (sz := 1) En338 (by kernel_rfl) (by kernel_rfl) rfl (by decide) Hv334 ?_
     intro ac340 wo341 bk339 En342 Hv343
     refine f_o ?_
     refine op_append (d := some 105) (t := 23) (tx := 23) (ty := 23) (k := 6) (p := List.length ((allF g c i) ++ x62)) (m := 1) (x := .slice (some ⟨bk339, 0, none⟩) 1 1) (bytes := 1) En342 (by kernel_rfl) Hv343 rfl (bys_len _) (Reads.src (size := 1) (tx := 23) (e' := 5) (by kernel_rfl) (Hv343.heap.reads (k := 8) rfl) rfl (fun e => by cases e) (bys_one _)) (by kernel_rfl) (z := .int .u8 0) (by kernel_rfl) rfl (by decide) (by first | omega | (simp; omega)) (by unfold maxLen; omega) ?_
     intro ac348 wo349 ao344 cp345 En350 Hv351 hnz _
     clear hnz
     rw [← bys_append] at Hv351
     have ehz346 : (List.length ((allF g c i) ++ x62)) + 1 = List.length (((allF g c i) ++ x62) ++ [(1 : UInt8)]) := (by first | (simp; done) | (simp; omega) | omega)
     rw [ehz346] at En350
     refine d_e [0,1,2,8,9,10,11,12,13,14,15] [] En350 fun ac352 En353 => ?_
     refine then_normal ?_
     refine region_from ?_
     refine d_k [0,1,2,8,9,10,11,12,13,14,15,106] [] 1 En353 fun ac354 En355 => ?_
     refine f_o ?_
     refine op_lit (d := some 107) (t := 23) (T := 5) (m := 2) (parts := #[(0, .int .u8 2), (1, .int .u8 3)]) (xs := bys [(2 : UInt8), (3 : UInt8)]) (sz := 1) En355 (by kernel_rfl) (by kernel_rfl) rfl (by decide) Hv351 ?_
     intro ac357 wo358 bk356 En359 Hv360
     refine f_o ?_
     refine c_l [2,3] (M := [.box bd (([.int .i64 h] : List Value) ++ ((u32s (S32 h ((allF g c i) ++ x62))) ++ ((u64s (S64 h ((allF g c i) ++ x62))) ++ ([.slice aoq82 (List.length (restH h ((allF g c i) ++ x62))) coq82, uv64 (UInt64.ofNat (List.length ((allF g c i) ++ x62)))] : List Value)))) 58, .vec aoq82 coq82 1 (bys (restH h ((allF g c i) ++ x62))) 5]) En359 Hv360 (fun hM362 => write_go _ bd h hh ((allF g c i) ++ x62) aoq82 coq82 (some ⟨bk356, 0, none⟩) 2 2 [(2 : UInt8), (3 : UInt8)] (by first | rfl | (simp; done) | (simp; omega) | omega) (bys_in Hv360.heap (k := 9) rfl [2, 3] (by kernel_rfl) rfl (by first | omega | (simp; done) | (simp; omega))) (by first | omega | (simp only [List.length_cons, List.length_nil]; omega)) ((gk32.ev Hv360).pick [2, 3] (by kernel_rfl)) ((gk64.ev Hv360).pick [2, 3] (by kernel_rfl)) hM362) ?_
     rintro _ wo363 ⟨aoq361, coq361, rfl, he364⟩
     refine ⟨_, _, [.box bd (([.int .i64 h] : List Value) ++ ((u32s (S32 h (((allF g c i) ++ x62) ++ [(2 : UInt8), (3 : UInt8)]))) ++ ((u64s (S64 h (((allF g c i) ++ x62) ++ [(2 : UInt8), (3 : UInt8)]))) ++ ([.slice aoq361 (List.length (restH h (((allF g c i) ++ x62) ++ [(2 : UInt8), (3 : UInt8)]))) coq361, uv64 (UInt64.ofNat (List.length (((allF g c i) ++ x62) ++ [(2 : UInt8), (3 : UInt8)])))] : List Value)))) 58, .vec aoq361 coq361 1 (bys (restH h (((allF g c i) ++ x62) ++ [(2 : UInt8), (3 : UInt8)]))) 5, .box bq308 (([.int .i64 h] : List Value) ++ ((u32s (S32 h (((allF g c i) ++ x62) ++ [(1 : UInt8)]))) ++ ((u64s (S64 h (((allF g c i) ++ x62) ++ [(1 : UInt8)]))) ++ ([.slice aoq327 (List.length (restH h (((allF g c i) ++ x62) ++ [(1 : UInt8)]))) coq327, uv64 (UInt64.ofNat (List.length (((allF g c i) ++ x62) ++ [(1 : UInt8)])))] : List Value)))) 58, .vec aoq327 coq327 1 (bys (restH h (((allF g c i) ++ x62) ++ [(1 : UInt8)]))) 5, .vec aoq147 coq147 1 (bys o2) 5, .vec ao70 cp71 1 (bys o1) 5, .vec ao344 cp345 1 (bys (((allF g c i) ++ x62) ++ [(1 : UInt8)])) 5, .vec (some ⟨bk322, 0, none⟩) 1 1 (bys [(1 : UInt8)]) 5, .vec (some ⟨bk339, 0, none⟩) 1 1 (bys [(1 : UInt8)]) 5, .vec (some ⟨bk356, 0, none⟩) 2 1 (bys [(2 : UInt8), (3 : UInt8)]) 5], rfl, he364, by kernel_rfl, fun ac366 En367 Hv368 => ?_⟩
     refine f_e ?_
     refine block_normal ?_
     refine then_normal ?_
     refine d_r [0,1,2,8,9,10,11,12,13,14,15] [(1, g_n (w_a i 1))] En367 fun ac369 En370 => ?_
     refine then_normal ?_
     have hall : allF g c (i + 1) = ((allF g c i) ++ x62) ++ [(1 : UInt8)] := by rw [allF, partAt, hx61]; first | (rw [if_pos (by omega)]; done) | (rw [if_neg (by omega), List.append_nil])
     rw [← hall] at Hv368
     have En371 := Env.fx (t := 9) (v := .slice ao344 (List.length (((allF g c i) ++ x62) ++ [(1 : UInt8)])) cp345) (u := .slice ao344 (List.length (allF g c (i + 1))) cp345) En370 (by rw [hall])
     refine ⟨_, ⟨i + 1, bq308, aoq327, coq327, ao344, cp345, rfl, En371.sb, Hv368.pk [2, 3, 6], by omega⟩, ?_⟩
     omega
    ·
     refine wp_skip ?_
     refine block_normal ?_
     refine then_normal ?_
     refine d_r [0,1,2,8,9,10,11,12,13,14] [(1, g_n (w_a i 1))] En304 fun ac372 En373 => ?_
     refine then_normal ?_
     have hall : allF g c (i + 1) = (allF g c i) ++ x62 := by rw [allF, partAt, hx61]; first | (rw [if_pos (by omega)]; done) | (rw [if_neg (by omega), List.append_nil])
     rw [← hall] at Hv275
     have En374 := Env.fx (t := 9) (v := .slice ao135 (List.length ((allF g c i) ++ x62)) cp136) (u := .slice ao135 (List.length (allF g c (i + 1))) cp136) En373 (by rw [hall])
     refine ⟨_, ⟨i + 1, bd, aoq82, coq82, ao135, cp136, rfl, En374.sb, Hv275.pk [1, 2, 4], by omega⟩, ?_⟩
     omega
 ·
  refine wp_exit ?_
  refine then_exit ?_
  refine then_exit ?_
  refine block_exit ?_
  refine then_normal ?_
  refine wp_seq ?_
  have hil : i = List.length g := by omega
  have hae := allF_le g c i hi
  have hae2 := sum_take_le g i
  have hfl := flat_len_le g
  refine r_c (fun ac wo => Env ac 137 [(0, .int .i64 h), (1, .slice a_g (List.length g) c_g), (2, .int .i64 c), (6, .bool true), (8, pt bd), (9, .slice a9 (List.length (allF g c i)) c9), (10, ni i)] ∧ Ev w [] wo [.box bd (([.int .i64 h] : List Value) ++ ((u32s (S32 h (allF g c i))) ++ ((u64s (S64 h (allF g c i))) ++ ([.slice ar (List.length (restH h (allF g c i))) cr, uv64 (UInt64.ofNat (List.length (allF g c i)))] : List Value)))) 58, .vec ar cr 1 (bys (restH h (allF g c i))) 5, .vec a9 c9 1 (bys (allF g c i)) 5]) ?_ ?_
  ·
   refine h_s (fun wv => Ev w [] wv []) [] 29 ?_
   have wo375 := Hv47.trans (Ev.drew Hv47.heap)
   refine h_name fun G hG => ?_
   have nd886 : ∀ (ac : Act) (wo : World) (aoq704 : _) (coq704 : _) (aoq750 : _) (coq750 : _), Env ac 137 [(0, .int .i64 h), (1, .slice a_g (List.length g) c_g), (2, .int .i64 c), (8, pt bd), (9, .slice a9 (List.length (allF g c i)) c9), (10, ni i), (124, .bool true), (128, .string (bstr (sumF h (List.flatMap (fun s : Sl UInt8 => s.l) g)))), (133, .slice aoq750 (List.length (sumF h (List.flatMap (fun s : Sl UInt8 => s.l) ([⟨aoq704, coq704, (List.flatMap (fun s : Sl UInt8 => s.l) g)⟩] : List (Sl UInt8))))) coq750)] → Ev w [] wo [.vec aoq750 coq750 1 (bys (sumF h (List.flatMap (fun s : Sl UInt8 => s.l) ([⟨aoq704, coq704, (List.flatMap (fun s : Sl UInt8 => s.l) g)⟩] : List (Sl UInt8))))) 5, .vec aoq704 coq704 1 (bys (List.flatMap (fun s : Sl UInt8 => s.l) g)) 5, .box bd (([.int .i64 h] : List Value) ++ ((u32s (S32 h (allF g c i))) ++ ((u64s (S64 h (allF g c i))) ++ ([.slice ar (List.length (restH h (allF g c i))) cr, uv64 (UInt64.ofNat (List.length (allF g c i)))] : List Value)))) 58, .vec ar cr 1 (bys (restH h (allF g c i))) 5, .vec a9 c9 1 (bys (allF g c i)) 5] → G 4 #[true, true, true, true, true, true, true, true, true, true, true, true, true, true, true, true, true, true, true, true, true, true, true, true, true, false, false, false, false] ac wo := by
    intro ac887 wo888 aoq704 coq704 aoq750 coq750 En889 Hv890
    refine h_from hG ?_
    refine q_t 25 ?_
    refine op_str (d := some 134) (src := 23) (dst := 9) (e := 5) (ao := aoq750) (cap := coq750) (p := List.length (sumF h (List.flatMap (fun s : Sl UInt8 => s.l) ([⟨aoq704, coq704, (List.flatMap (fun s : Sl UInt8 => s.l) g)⟩] : List (Sl UInt8))))) (bs := sumF h (List.flatMap (fun s : Sl UInt8 => s.l) ([⟨aoq704, coq704, (List.flatMap (fun s : Sl UInt8 => s.l) g)⟩] : List (Sl UInt8)))) En889 (by kernel_rfl) rfl (by kernel_rfl) (by kernel_rfl) (by kernel_rfl) (Hv890.heap.reads (k := 0) rfl) (bys_vnz Hv890.heap (k := 0) rfl) ?_
    intro ac891 En892
    refine ⟨fun _ => Hv890.pk [], ?_⟩
    refine q_s [26,27,28] [(26, g_v (show (.bool (ByteArray.toList (bstr (sumF h (List.flatMap (fun s : Sl UInt8 => s.l) g))) == ByteArray.toList (bstr (sumF h (List.flatMap (fun s : Sl UInt8 => s.l) ([⟨aoq704, coq704, (List.flatMap (fun s : Sl UInt8 => s.l) g)⟩] : List (Sl UInt8)))))) : Value) = .bool true by rw [Go.Dbr.bstr_eq (sumF h (List.flatMap (fun s : Sl UInt8 => s.l) g)) (sumF h (List.flatMap (fun s : Sl UInt8 => s.l) ([⟨aoq704, coq704, (List.flatMap (fun s : Sl UInt8 => s.l) g)⟩] : List (Sl UInt8)))), show ((sumF h (List.flatMap (fun s : Sl UInt8 => s.l) g)) == (sumF h (List.flatMap (fun s : Sl UInt8 => s.l) ([⟨aoq704, coq704, (List.flatMap (fun s : Sl UInt8 => s.l) g)⟩] : List (Sl UInt8))))) = true from (by simp)] <;> rfl))] 0 En892 (Hv890.pk []) fun ac893 En894 => ?_
    exact h_e ⟨En894.sb, Hv890.pk [2, 3, 4]⟩
   have nd895 : ∀ (ac : Act) (wo : World) (aoq669 : _) (coq669 : _) (aoq704 : _) (coq704 : _), Env ac 137 [(0, .int .i64 h), (1, .slice a_g (List.length g) c_g), (2, .int .i64 c), (8, pt bd), (9, .slice a9 (List.length (allF g c i)) c9), (10, ni i), (124, .bool true), (127, .slice aoq669 (List.length (sumF h (List.flatMap (fun s : Sl UInt8 => s.l) g))) coq669), (134, .string (bstr (sumF h (List.flatMap (fun s : Sl UInt8 => s.l) ([⟨aoq704, coq704, (List.flatMap (fun s : Sl UInt8 => s.l) g)⟩] : List (Sl UInt8))))))] → Ev w [] wo [.vec aoq704 coq704 1 (bys (List.flatMap (fun s : Sl UInt8 => s.l) g)) 5, .vec aoq669 coq669 1 (bys (sumF h (List.flatMap (fun s : Sl UInt8 => s.l) g))) 5, .box bd (([.int .i64 h] : List Value) ++ ((u32s (S32 h (allF g c i))) ++ ((u64s (S64 h (allF g c i))) ++ ([.slice ar (List.length (restH h (allF g c i))) cr, uv64 (UInt64.ofNat (List.length (allF g c i)))] : List Value)))) 58, .vec ar cr 1 (bys (restH h (allF g c i))) 5, .vec a9 c9 1 (bys (allF g c i)) 5] → G 4 #[true, true, true, true, true, true, true, true, true, true, true, true, true, true, true, true, true, true, true, false, true, true, true, true, true, true, false, false, false] ac wo := by
    intro ac896 wo897 aoq669 coq669 aoq704 coq704 En898 Hv899
    refine h_from hG ?_
    refine q_t 19 ?_
    refine op_str (d := some 128) (src := 23) (dst := 9) (e := 5) (ao := aoq669) (cap := coq669) (p := List.length (sumF h (List.flatMap (fun s : Sl UInt8 => s.l) g))) (bs := sumF h (List.flatMap (fun s : Sl UInt8 => s.l) g)) En898 (by kernel_rfl) rfl (by kernel_rfl) (by kernel_rfl) (by kernel_rfl) (Hv899.heap.reads (k := 1) rfl) (bys_vnz Hv899.heap (k := 1) rfl) ?_
    intro ac900 En901
    refine ⟨fun _ => Hv899.pk [], ?_⟩
    refine q_s [26,27,28] [(26, g_v (show (.bool (ByteArray.toList (bstr (sumF h (List.flatMap (fun s : Sl UInt8 => s.l) g))) == ByteArray.toList (bstr (sumF h (List.flatMap (fun s : Sl UInt8 => s.l) ([⟨aoq704, coq704, (List.flatMap (fun s : Sl UInt8 => s.l) g)⟩] : List (Sl UInt8)))))) : Value) = .bool true by rw [Go.Dbr.bstr_eq (sumF h (List.flatMap (fun s : Sl UInt8 => s.l) g)) (sumF h (List.flatMap (fun s : Sl UInt8 => s.l) ([⟨aoq704, coq704, (List.flatMap (fun s : Sl UInt8 => s.l) g)⟩] : List (Sl UInt8)))), show ((sumF h (List.flatMap (fun s : Sl UInt8 => s.l) g)) == (sumF h (List.flatMap (fun s : Sl UInt8 => s.l) ([⟨aoq704, coq704, (List.flatMap (fun s : Sl UInt8 => s.l) g)⟩] : List (Sl UInt8))))) = true from (by simp)] <;> rfl))] 0 En901 (Hv899.pk []) fun ac902 En903 => ?_
    exact h_e ⟨En903.sb, Hv899.pk [2, 3, 4]⟩
   have nd904 : ∀ (ac : Act) (wo : World) (aoq704 : _) (coq704 : _) (bk731 : Nat), Env ac 137 [(0, .int .i64 h), (1, .slice a_g (List.length g) c_g), (2, .int .i64 c), (8, pt bd), (9, .slice a9 (List.length (allF g c i)) c9), (10, ni i), (124, .bool true), (128, .string (bstr (sumF h (List.flatMap (fun s : Sl UInt8 => s.l) g)))), (129, .int .i64 h), (132, .slice (some ⟨bk731, 0, none⟩) 1 1)] → Ev w [] wo [.vec aoq704 coq704 1 (bys (List.flatMap (fun s : Sl UInt8 => s.l) g)) 5, .box bd (([.int .i64 h] : List Value) ++ ((u32s (S32 h (allF g c i))) ++ ((u64s (S64 h (allF g c i))) ++ ([.slice ar (List.length (restH h (allF g c i))) cr, uv64 (UInt64.ofNat (List.length (allF g c i)))] : List Value)))) 58, .vec ar cr 1 (bys (restH h (allF g c i))) 5, .vec a9 c9 1 (bys (allF g c i)) 5, .vec (some ⟨bk731, 0, none⟩) 1 1 [.slice aoq704 (List.length (List.flatMap (fun s : Sl UInt8 => s.l) g)) coq704] 23] → G 5 #[true, true, true, true, true, true, true, true, true, true, true, true, true, true, true, true, true, true, true, true, true, true, true, true, false, false, false, false, false] ac wo := by
    intro ac905 wo906 aoq704 coq704 bk731 En907 Hv908
    refine h_from hG ?_
    refine q_t 24 ?_
    refine c_0 En907 Hv908 (of_all _ h hh (some ⟨bk731, 0, none⟩) 1 1 ([⟨aoq704, coq704, (List.flatMap (fun s : Sl UInt8 => s.l) g)⟩] : List (Sl UInt8)) (by first | rfl | (simp; done) | (simp; omega) | omega) ⟨Hv908.heap.ro (k := 4) rfl [] (by kernel_rfl) rfl, (fun e => by cases e), (by simp), (by simp), (List.forall_mem_cons.2 ⟨(bys_in Hv908.heap (k := 0) rfl [] (by kernel_rfl) rfl (by first | decide | (dsimp only; omega) | (simp; done) | (simp; omega) | omega)), (fun x h => absurd h List.not_mem_nil)⟩)⟩ ((gk32.ev Hv908).pick [] (by kernel_rfl)) ((gk64.ev Hv908).pick [] (by kernel_rfl))) ?_
    rintro _ wo911 ⟨aoq909, coq909, rfl, he912⟩
    refine ⟨_, _, _, rfl, he912, rfl, fun ac914 En915 Hv916 => ?_⟩
    refine ⟨fun _ => Hv916.pk [], ?_⟩
    refine q_t 25 ?_
    refine op_str (d := some 134) (src := 23) (dst := 9) (e := 5) (ao := aoq909) (cap := coq909) (p := List.length (sumF h (List.flatMap (fun s : Sl UInt8 => s.l) ([⟨aoq704, coq704, (List.flatMap (fun s : Sl UInt8 => s.l) g)⟩] : List (Sl UInt8))))) (bs := sumF h (List.flatMap (fun s : Sl UInt8 => s.l) ([⟨aoq704, coq704, (List.flatMap (fun s : Sl UInt8 => s.l) g)⟩] : List (Sl UInt8)))) En915 (by kernel_rfl) rfl (by kernel_rfl) (by kernel_rfl) (by kernel_rfl) (Hv916.heap.reads (k := 0) rfl) (bys_vnz Hv916.heap (k := 0) rfl) ?_
    intro ac917 En918
    refine ⟨fun _ => Hv916.pk [], ?_⟩
    refine q_s [26,27,28] [(26, g_v (show (.bool (ByteArray.toList (bstr (sumF h (List.flatMap (fun s : Sl UInt8 => s.l) g))) == ByteArray.toList (bstr (sumF h (List.flatMap (fun s : Sl UInt8 => s.l) ([⟨aoq704, coq704, (List.flatMap (fun s : Sl UInt8 => s.l) g)⟩] : List (Sl UInt8)))))) : Value) = .bool true by rw [Go.Dbr.bstr_eq (sumF h (List.flatMap (fun s : Sl UInt8 => s.l) g)) (sumF h (List.flatMap (fun s : Sl UInt8 => s.l) ([⟨aoq704, coq704, (List.flatMap (fun s : Sl UInt8 => s.l) g)⟩] : List (Sl UInt8)))), show ((sumF h (List.flatMap (fun s : Sl UInt8 => s.l) g)) == (sumF h (List.flatMap (fun s : Sl UInt8 => s.l) ([⟨aoq704, coq704, (List.flatMap (fun s : Sl UInt8 => s.l) g)⟩] : List (Sl UInt8))))) = true from (by simp)] <;> rfl))] 0 En918 (Hv916.pk []) fun ac919 En920 => ?_
    exact h_e ⟨En920.sb, Hv916.pk [2, 3, 4]⟩
   have nd921 : ∀ (ac : Act) (wo : World) (aoq669 : _) (coq669 : _) (aoq704 : _) (coq704 : _) (aoq750 : _) (coq750 : _), Env ac 137 [(0, .int .i64 h), (1, .slice a_g (List.length g) c_g), (2, .int .i64 c), (8, pt bd), (9, .slice a9 (List.length (allF g c i)) c9), (10, ni i), (124, .bool true), (127, .slice aoq669 (List.length (sumF h (List.flatMap (fun s : Sl UInt8 => s.l) g))) coq669), (133, .slice aoq750 (List.length (sumF h (List.flatMap (fun s : Sl UInt8 => s.l) ([⟨aoq704, coq704, (List.flatMap (fun s : Sl UInt8 => s.l) g)⟩] : List (Sl UInt8))))) coq750)] → Ev w [] wo [.vec aoq750 coq750 1 (bys (sumF h (List.flatMap (fun s : Sl UInt8 => s.l) ([⟨aoq704, coq704, (List.flatMap (fun s : Sl UInt8 => s.l) g)⟩] : List (Sl UInt8))))) 5, .vec aoq704 coq704 1 (bys (List.flatMap (fun s : Sl UInt8 => s.l) g)) 5, .vec aoq669 coq669 1 (bys (sumF h (List.flatMap (fun s : Sl UInt8 => s.l) g))) 5, .box bd (([.int .i64 h] : List Value) ++ ((u32s (S32 h (allF g c i))) ++ ((u64s (S64 h (allF g c i))) ++ ([.slice ar (List.length (restH h (allF g c i))) cr, uv64 (UInt64.ofNat (List.length (allF g c i)))] : List Value)))) 58, .vec ar cr 1 (bys (restH h (allF g c i))) 5, .vec a9 c9 1 (bys (allF g c i)) 5] → G 5 #[true, true, true, true, true, true, true, true, true, true, true, true, true, true, true, true, true, true, true, false, true, true, true, true, true, false, false, false, false] ac wo := by
    intro ac922 wo923 aoq669 coq669 aoq704 coq704 aoq750 coq750 En924 Hv925
    refine h_from hG ?_
    refine h_ways [19, 25] (by kernel_rfl) rfl ?_
    refine ⟨?_, ?_, trivial⟩
    ·
     rintro _ rfl
     refine op_str (d := some 128) (src := 23) (dst := 9) (e := 5) (ao := aoq669) (cap := coq669) (p := List.length (sumF h (List.flatMap (fun s : Sl UInt8 => s.l) g))) (bs := sumF h (List.flatMap (fun s : Sl UInt8 => s.l) g)) En924 (by kernel_rfl) rfl (by kernel_rfl) (by kernel_rfl) (by kernel_rfl) (Hv925.heap.reads (k := 2) rfl) (bys_vnz Hv925.heap (k := 2) rfl) ?_
     intro ac926 En927
     refine ⟨fun _ => Hv925.pk [], ?_⟩
     exact h_to hG (by kernel_rfl) (nd886 _ _ aoq704 coq704 aoq750 coq750 (En927.sb) (Hv925.pk [0, 1, 3, 4, 5]))
    ·
     rintro _ rfl
     refine op_str (d := some 134) (src := 23) (dst := 9) (e := 5) (ao := aoq750) (cap := coq750) (p := List.length (sumF h (List.flatMap (fun s : Sl UInt8 => s.l) ([⟨aoq704, coq704, (List.flatMap (fun s : Sl UInt8 => s.l) g)⟩] : List (Sl UInt8))))) (bs := sumF h (List.flatMap (fun s : Sl UInt8 => s.l) ([⟨aoq704, coq704, (List.flatMap (fun s : Sl UInt8 => s.l) g)⟩] : List (Sl UInt8)))) En924 (by kernel_rfl) rfl (by kernel_rfl) (by kernel_rfl) (by kernel_rfl) (Hv925.heap.reads (k := 0) rfl) (bys_vnz Hv925.heap (k := 0) rfl) ?_
     intro ac928 En929
     refine ⟨fun _ => Hv925.pk [], ?_⟩
     exact h_to hG (by kernel_rfl) (nd895 _ _ aoq669 coq669 aoq704 coq704 (En929.sb) (Hv925.pk [1, 2, 3, 4, 5]))
   have nd930 : ∀ (ac : Act) (wo : World) (aoq704 : _) (coq704 : _), Env ac 137 [(0, .int .i64 h), (1, .slice a_g (List.length g) c_g), (2, .int .i64 c), (8, pt bd), (9, .slice a9 (List.length (allF g c i)) c9), (10, ni i), (124, .bool true), (128, .string (bstr (sumF h (List.flatMap (fun s : Sl UInt8 => s.l) g)))), (129, .int .i64 h), (131, .slice aoq704 (List.length (List.flatMap (fun s : Sl UInt8 => s.l) g)) coq704)] → Ev w [] wo [.vec aoq704 coq704 1 (bys (List.flatMap (fun s : Sl UInt8 => s.l) g)) 5, .box bd (([.int .i64 h] : List Value) ++ ((u32s (S32 h (allF g c i))) ++ ((u64s (S64 h (allF g c i))) ++ ([.slice ar (List.length (restH h (allF g c i))) cr, uv64 (UInt64.ofNat (List.length (allF g c i)))] : List Value)))) 58, .vec ar cr 1 (bys (restH h (allF g c i))) 5, .vec a9 c9 1 (bys (allF g c i)) 5] → G 6 #[true, true, true, true, true, true, true, true, true, true, true, true, true, true, true, true, true, true, true, true, true, true, true, false, false, false, false, false, false] ac wo := by
    intro ac931 wo932 aoq704 coq704 En933 Hv934
    refine h_from hG ?_
    refine q_t 23 ?_
    refine op_lit (d := some 132) (t := 30) (T := 23) (m := 1) (parts := #[(0, .slice aoq704 (List.length (List.flatMap (fun s : Sl UInt8 => s.l) g)) coq704)]) (xs := [.slice aoq704 (List.length (List.flatMap (fun s : Sl UInt8 => s.l) g)) coq704]) (sz := 1) En933 (by kernel_rfl) (by kernel_rfl) rfl (by decide) Hv934 ?_
    intro ac936 wo937 bk935 En938 Hv939
    refine ⟨fun _ => Hv939.pk [], ?_⟩
    refine q_t 24 ?_
    refine c_0 En938 Hv939 (of_all _ h hh (some ⟨bk935, 0, none⟩) 1 1 ([⟨aoq704, coq704, (List.flatMap (fun s : Sl UInt8 => s.l) g)⟩] : List (Sl UInt8)) (by first | rfl | (simp; done) | (simp; omega) | omega) ⟨Hv939.heap.ro (k := 4) rfl [] (by kernel_rfl) rfl, (fun e => by cases e), (by simp), (by simp), (List.forall_mem_cons.2 ⟨(bys_in Hv939.heap (k := 0) rfl [] (by kernel_rfl) rfl (by first | decide | (dsimp only; omega) | (simp; done) | (simp; omega) | omega)), (fun x h => absurd h List.not_mem_nil)⟩)⟩ ((gk32.ev Hv939).pick [] (by kernel_rfl)) ((gk64.ev Hv939).pick [] (by kernel_rfl))) ?_
    rintro _ wo942 ⟨aoq940, coq940, rfl, he943⟩
    refine ⟨_, _, _, rfl, he943, rfl, fun ac945 En946 Hv947 => ?_⟩
    refine ⟨fun _ => Hv947.pk [], ?_⟩
    refine q_t 25 ?_
    refine op_str (d := some 134) (src := 23) (dst := 9) (e := 5) (ao := aoq940) (cap := coq940) (p := List.length (sumF h (List.flatMap (fun s : Sl UInt8 => s.l) ([⟨aoq704, coq704, (List.flatMap (fun s : Sl UInt8 => s.l) g)⟩] : List (Sl UInt8))))) (bs := sumF h (List.flatMap (fun s : Sl UInt8 => s.l) ([⟨aoq704, coq704, (List.flatMap (fun s : Sl UInt8 => s.l) g)⟩] : List (Sl UInt8)))) En946 (by kernel_rfl) rfl (by kernel_rfl) (by kernel_rfl) (by kernel_rfl) (Hv947.heap.reads (k := 0) rfl) (bys_vnz Hv947.heap (k := 0) rfl) ?_
    intro ac948 En949
    refine ⟨fun _ => Hv947.pk [], ?_⟩
    refine q_s [26,27,28] [(26, g_v (show (.bool (ByteArray.toList (bstr (sumF h (List.flatMap (fun s : Sl UInt8 => s.l) g))) == ByteArray.toList (bstr (sumF h (List.flatMap (fun s : Sl UInt8 => s.l) ([⟨aoq704, coq704, (List.flatMap (fun s : Sl UInt8 => s.l) g)⟩] : List (Sl UInt8)))))) : Value) = .bool true by rw [Go.Dbr.bstr_eq (sumF h (List.flatMap (fun s : Sl UInt8 => s.l) g)) (sumF h (List.flatMap (fun s : Sl UInt8 => s.l) ([⟨aoq704, coq704, (List.flatMap (fun s : Sl UInt8 => s.l) g)⟩] : List (Sl UInt8)))), show ((sumF h (List.flatMap (fun s : Sl UInt8 => s.l) g)) == (sumF h (List.flatMap (fun s : Sl UInt8 => s.l) ([⟨aoq704, coq704, (List.flatMap (fun s : Sl UInt8 => s.l) g)⟩] : List (Sl UInt8))))) = true from (by simp)] <;> rfl))] 0 En949 (Hv947.pk []) fun ac950 En951 => ?_
    exact h_e ⟨En951.sb, Hv947.pk [2, 3, 4]⟩
   have nd952 : ∀ (ac : Act) (wo : World) (aoq669 : _) (coq669 : _) (aoq704 : _) (coq704 : _) (bk731 : Nat), Env ac 137 [(0, .int .i64 h), (1, .slice a_g (List.length g) c_g), (2, .int .i64 c), (8, pt bd), (9, .slice a9 (List.length (allF g c i)) c9), (10, ni i), (124, .bool true), (127, .slice aoq669 (List.length (sumF h (List.flatMap (fun s : Sl UInt8 => s.l) g))) coq669), (129, .int .i64 h), (132, .slice (some ⟨bk731, 0, none⟩) 1 1)] → Ev w [] wo [.vec aoq704 coq704 1 (bys (List.flatMap (fun s : Sl UInt8 => s.l) g)) 5, .vec aoq669 coq669 1 (bys (sumF h (List.flatMap (fun s : Sl UInt8 => s.l) g))) 5, .box bd (([.int .i64 h] : List Value) ++ ((u32s (S32 h (allF g c i))) ++ ((u64s (S64 h (allF g c i))) ++ ([.slice ar (List.length (restH h (allF g c i))) cr, uv64 (UInt64.ofNat (List.length (allF g c i)))] : List Value)))) 58, .vec ar cr 1 (bys (restH h (allF g c i))) 5, .vec a9 c9 1 (bys (allF g c i)) 5, .vec (some ⟨bk731, 0, none⟩) 1 1 [.slice aoq704 (List.length (List.flatMap (fun s : Sl UInt8 => s.l) g)) coq704] 23] → G 6 #[true, true, true, true, true, true, true, true, true, true, true, true, true, true, true, true, true, true, true, false, true, true, true, true, false, false, false, false, false] ac wo := by
    intro ac953 wo954 aoq669 coq669 aoq704 coq704 bk731 En955 Hv956
    refine h_from hG ?_
    refine h_ways [19, 24] (by kernel_rfl) rfl ?_
    refine ⟨?_, ?_, trivial⟩
    ·
     rintro _ rfl
     refine op_str (d := some 128) (src := 23) (dst := 9) (e := 5) (ao := aoq669) (cap := coq669) (p := List.length (sumF h (List.flatMap (fun s : Sl UInt8 => s.l) g))) (bs := sumF h (List.flatMap (fun s : Sl UInt8 => s.l) g)) En955 (by kernel_rfl) rfl (by kernel_rfl) (by kernel_rfl) (by kernel_rfl) (Hv956.heap.reads (k := 1) rfl) (bys_vnz Hv956.heap (k := 1) rfl) ?_
     intro ac957 En958
     refine ⟨fun _ => Hv956.pk [], ?_⟩
     exact h_to hG (by kernel_rfl) (nd904 _ _ aoq704 coq704 bk731 (En958.sb) (Hv956.pk [0, 2, 3, 4, 5]))
    ·
     rintro _ rfl
     refine c_0 En955 Hv956 (of_all _ h hh (some ⟨bk731, 0, none⟩) 1 1 ([⟨aoq704, coq704, (List.flatMap (fun s : Sl UInt8 => s.l) g)⟩] : List (Sl UInt8)) (by first | rfl | (simp; done) | (simp; omega) | omega) ⟨Hv956.heap.ro (k := 5) rfl [] (by kernel_rfl) rfl, (fun e => by cases e), (by simp), (by simp), (List.forall_mem_cons.2 ⟨(bys_in Hv956.heap (k := 0) rfl [] (by kernel_rfl) rfl (by first | decide | (dsimp only; omega) | (simp; done) | (simp; omega) | omega)), (fun x h => absurd h List.not_mem_nil)⟩)⟩ ((gk32.ev Hv956).pick [] (by kernel_rfl)) ((gk64.ev Hv956).pick [] (by kernel_rfl))) ?_
     rintro _ wo961 ⟨aoq959, coq959, rfl, he962⟩
     refine ⟨_, _, _, rfl, he962, rfl, fun ac964 En965 Hv966 => ?_⟩
     refine ⟨fun _ => Hv966.pk [], ?_⟩
     exact h_to hG (by kernel_rfl) (nd921 _ _ aoq669 coq669 aoq704 coq704 aoq959 coq959 (En965.sb) (Hv966.pk [0, 1, 2, 3, 4, 5]))
   have nd967 : ∀ (ac : Act) (wo : World), Env ac 137 [(0, .int .i64 h), (1, .slice a_g (List.length g) c_g), (2, .int .i64 c), (8, pt bd), (9, .slice a9 (List.length (allF g c i)) c9), (10, ni i), (124, .bool true), (128, .string (bstr (sumF h (List.flatMap (fun s : Sl UInt8 => s.l) g)))), (129, .int .i64 h), (130, .slice a_g (List.length g) c_g)] → Ev w [] wo [.box bd (([.int .i64 h] : List Value) ++ ((u32s (S32 h (allF g c i))) ++ ((u64s (S64 h (allF g c i))) ++ ([.slice ar (List.length (restH h (allF g c i))) cr, uv64 (UInt64.ofNat (List.length (allF g c i)))] : List Value)))) 58, .vec ar cr 1 (bys (restH h (allF g c i))) 5, .vec a9 c9 1 (bys (allF g c i)) 5] → G 7 #[true, true, true, true, true, true, true, true, true, true, true, true, true, true, true, true, true, true, true, true, true, true, false, false, false, false, false, false, false] ac wo := by
    intro ac968 wo969 En970 Hv971
    refine h_from hG ?_
    refine q_t 22 ?_
    refine c_0 En970 Hv971 (join_go _ a_g (List.length g) c_g g (by first | rfl | (simp; done) | (simp; omega) | omega) (i_g.go Hv971 [] (by kernel_rfl) (fun _ h => (InB.ev h Hv971).pick [] (by kernel_rfl))) hB) ?_
    rintro _ wo974 ⟨aoq972, coq972, rfl, he975⟩
    refine ⟨_, _, _, rfl, he975, rfl, fun ac977 En978 Hv979 => ?_⟩
    refine ⟨fun _ => Hv979.pk [], ?_⟩
    refine q_t 23 ?_
    refine op_lit (d := some 132) (t := 30) (T := 23) (m := 1) (parts := #[(0, .slice aoq972 (List.length (List.flatMap (fun s : Sl UInt8 => s.l) g)) coq972)]) (xs := [.slice aoq972 (List.length (List.flatMap (fun s : Sl UInt8 => s.l) g)) coq972]) (sz := 1) En978 (by kernel_rfl) (by kernel_rfl) rfl (by decide) Hv979 ?_
    intro ac981 wo982 bk980 En983 Hv984
    refine ⟨fun _ => Hv984.pk [], ?_⟩
    refine q_t 24 ?_
    refine c_0 En983 Hv984 (of_all _ h hh (some ⟨bk980, 0, none⟩) 1 1 ([⟨aoq972, coq972, (List.flatMap (fun s : Sl UInt8 => s.l) g)⟩] : List (Sl UInt8)) (by first | rfl | (simp; done) | (simp; omega) | omega) ⟨Hv984.heap.ro (k := 4) rfl [] (by kernel_rfl) rfl, (fun e => by cases e), (by simp), (by simp), (List.forall_mem_cons.2 ⟨(bys_in Hv984.heap (k := 0) rfl [] (by kernel_rfl) rfl (by first | decide | (dsimp only; omega) | (simp; done) | (simp; omega) | omega)), (fun x h => absurd h List.not_mem_nil)⟩)⟩ ((gk32.ev Hv984).pick [] (by kernel_rfl)) ((gk64.ev Hv984).pick [] (by kernel_rfl))) ?_
    rintro _ wo987 ⟨aoq985, coq985, rfl, he988⟩
    refine ⟨_, _, _, rfl, he988, rfl, fun ac990 En991 Hv992 => ?_⟩
    refine ⟨fun _ => Hv992.pk [], ?_⟩
    refine q_t 25 ?_
    refine op_str (d := some 134) (src := 23) (dst := 9) (e := 5) (ao := aoq985) (cap := coq985) (p := List.length (sumF h (List.flatMap (fun s : Sl UInt8 => s.l) ([⟨aoq972, coq972, (List.flatMap (fun s : Sl UInt8 => s.l) g)⟩] : List (Sl UInt8))))) (bs := sumF h (List.flatMap (fun s : Sl UInt8 => s.l) ([⟨aoq972, coq972, (List.flatMap (fun s : Sl UInt8 => s.l) g)⟩] : List (Sl UInt8)))) En991 (by kernel_rfl) rfl (by kernel_rfl) (by kernel_rfl) (by kernel_rfl) (Hv992.heap.reads (k := 0) rfl) (bys_vnz Hv992.heap (k := 0) rfl) ?_
    intro ac993 En994
    refine ⟨fun _ => Hv992.pk [], ?_⟩
    refine q_s [26,27,28] [(26, g_v (show (.bool (ByteArray.toList (bstr (sumF h (List.flatMap (fun s : Sl UInt8 => s.l) g))) == ByteArray.toList (bstr (sumF h (List.flatMap (fun s : Sl UInt8 => s.l) ([⟨aoq972, coq972, (List.flatMap (fun s : Sl UInt8 => s.l) g)⟩] : List (Sl UInt8)))))) : Value) = .bool true by rw [Go.Dbr.bstr_eq (sumF h (List.flatMap (fun s : Sl UInt8 => s.l) g)) (sumF h (List.flatMap (fun s : Sl UInt8 => s.l) ([⟨aoq972, coq972, (List.flatMap (fun s : Sl UInt8 => s.l) g)⟩] : List (Sl UInt8)))), show ((sumF h (List.flatMap (fun s : Sl UInt8 => s.l) g)) == (sumF h (List.flatMap (fun s : Sl UInt8 => s.l) ([⟨aoq972, coq972, (List.flatMap (fun s : Sl UInt8 => s.l) g)⟩] : List (Sl UInt8))))) = true from (by simp)] <;> rfl))] 0 En994 (Hv992.pk []) fun ac995 En996 => ?_
    exact h_e ⟨En996.sb, Hv992.pk [2, 3, 4]⟩
   have nd997 : ∀ (ac : Act) (wo : World) (aoq669 : _) (coq669 : _) (aoq704 : _) (coq704 : _), Env ac 137 [(0, .int .i64 h), (1, .slice a_g (List.length g) c_g), (2, .int .i64 c), (8, pt bd), (9, .slice a9 (List.length (allF g c i)) c9), (10, ni i), (124, .bool true), (127, .slice aoq669 (List.length (sumF h (List.flatMap (fun s : Sl UInt8 => s.l) g))) coq669), (129, .int .i64 h), (131, .slice aoq704 (List.length (List.flatMap (fun s : Sl UInt8 => s.l) g)) coq704)] → Ev w [] wo [.vec aoq704 coq704 1 (bys (List.flatMap (fun s : Sl UInt8 => s.l) g)) 5, .vec aoq669 coq669 1 (bys (sumF h (List.flatMap (fun s : Sl UInt8 => s.l) g))) 5, .box bd (([.int .i64 h] : List Value) ++ ((u32s (S32 h (allF g c i))) ++ ((u64s (S64 h (allF g c i))) ++ ([.slice ar (List.length (restH h (allF g c i))) cr, uv64 (UInt64.ofNat (List.length (allF g c i)))] : List Value)))) 58, .vec ar cr 1 (bys (restH h (allF g c i))) 5, .vec a9 c9 1 (bys (allF g c i)) 5] → G 7 #[true, true, true, true, true, true, true, true, true, true, true, true, true, true, true, true, true, true, true, false, true, true, true, false, false, false, false, false, false] ac wo := by
    intro ac998 wo999 aoq669 coq669 aoq704 coq704 En1000 Hv1001
    refine h_from hG ?_
    refine h_ways [19, 23] (by kernel_rfl) rfl ?_
    refine ⟨?_, ?_, trivial⟩
    ·
     rintro _ rfl
     refine op_str (d := some 128) (src := 23) (dst := 9) (e := 5) (ao := aoq669) (cap := coq669) (p := List.length (sumF h (List.flatMap (fun s : Sl UInt8 => s.l) g))) (bs := sumF h (List.flatMap (fun s : Sl UInt8 => s.l) g)) En1000 (by kernel_rfl) rfl (by kernel_rfl) (by kernel_rfl) (by kernel_rfl) (Hv1001.heap.reads (k := 1) rfl) (bys_vnz Hv1001.heap (k := 1) rfl) ?_
     intro ac1002 En1003
     refine ⟨fun _ => Hv1001.pk [], ?_⟩
     exact h_to hG (by kernel_rfl) (nd930 _ _ aoq704 coq704 (En1003.sb) (Hv1001.pk [0, 2, 3, 4]))
    ·
     rintro _ rfl
     refine op_lit (d := some 132) (t := 30) (T := 23) (m := 1) (parts := #[(0, .slice aoq704 (List.length (List.flatMap (fun s : Sl UInt8 => s.l) g)) coq704)]) (xs := [.slice aoq704 (List.length (List.flatMap (fun s : Sl UInt8 => s.l) g)) coq704]) (sz := 1) En1000 (by kernel_rfl) (by kernel_rfl) rfl (by decide) Hv1001 ?_
     intro ac1005 wo1006 bk1004 En1007 Hv1008
     refine ⟨fun _ => Hv1008.pk [], ?_⟩
     exact h_to hG (by kernel_rfl) (nd952 _ _ aoq669 coq669 aoq704 coq704 bk1004 (En1007.sb) (Hv1008.pk [0, 1, 2, 3, 4, 5]))
   have nd1009 : ∀ (ac : Act) (wo : World) (aoq807 : _) (coq807 : _), Env ac 137 [(0, .int .i64 h), (1, .slice a_g (List.length g) c_g), (2, .int .i64 c), (8, pt bd), (9, .slice a9 (List.length (allF g c i)) c9), (10, ni i), (113, .bool true), (116, .string (bstr (sumF h (allF g c i)))), (120, .slice aoq807 (List.length (sumF h (List.flatMap (fun s : Sl UInt8 => s.l) ([⟨a9, c9, allF g c i⟩] : List (Sl UInt8))))) coq807)] → Ev w [] wo [.vec aoq807 coq807 1 (bys (sumF h (List.flatMap (fun s : Sl UInt8 => s.l) ([⟨a9, c9, allF g c i⟩] : List (Sl UInt8))))) 5, .box bd (([.int .i64 h] : List Value) ++ ((u32s (S32 h (allF g c i))) ++ ((u64s (S64 h (allF g c i))) ++ ([.slice ar (List.length (restH h (allF g c i))) cr, uv64 (UInt64.ofNat (List.length (allF g c i)))] : List Value)))) 58, .vec ar cr 1 (bys (restH h (allF g c i))) 5, .vec a9 c9 1 (bys (allF g c i)) 5] → G 17 #[true, true, true, true, true, true, true, true, true, true, true, true, false, false, false, false, false, false, false, false, false, false, false, false, false, false, false, false, false] ac wo := by
    intro ac1010 wo1011 aoq807 coq807 En1012 Hv1013
    refine h_from hG ?_
    refine q_t 12 ?_
    refine op_str (d := some 121) (src := 23) (dst := 9) (e := 5) (ao := aoq807) (cap := coq807) (p := List.length (sumF h (List.flatMap (fun s : Sl UInt8 => s.l) ([⟨a9, c9, allF g c i⟩] : List (Sl UInt8))))) (bs := sumF h (List.flatMap (fun s : Sl UInt8 => s.l) ([⟨a9, c9, allF g c i⟩] : List (Sl UInt8)))) En1012 (by kernel_rfl) rfl (by kernel_rfl) (by kernel_rfl) (by kernel_rfl) (Hv1013.heap.reads (k := 0) rfl) (bys_vnz Hv1013.heap (k := 0) rfl) ?_
    intro ac1014 En1015
    refine ⟨fun _ => Hv1013.pk [], ?_⟩
    refine q_s [13,14,15,16,17,20,21] [(13, g_v (show (.bool (ByteArray.toList (bstr (sumF h (allF g c i))) == ByteArray.toList (bstr (sumF h (List.flatMap (fun s : Sl UInt8 => s.l) ([⟨a9, c9, allF g c i⟩] : List (Sl UInt8)))))) : Value) = .bool true by rw [Go.Dbr.bstr_eq (sumF h (allF g c i)) (sumF h (List.flatMap (fun s : Sl UInt8 => s.l) ([⟨a9, c9, allF g c i⟩] : List (Sl UInt8)))), show ((sumF h (allF g c i)) == (sumF h (List.flatMap (fun s : Sl UInt8 => s.l) ([⟨a9, c9, allF g c i⟩] : List (Sl UInt8))))) = true from (by simp)] <;> rfl))] 9 En1015 (Hv1013.pk []) fun ac1016 En1017 => ?_
    refine q_t 18 ?_
    refine c_0 En1017 Hv1013 (of_all _ h hh a_g (List.length g) c_g g (by first | rfl | (simp; done) | (simp; omega) | omega) (i_g.go Hv1013 [] (by kernel_rfl) (fun _ h => (InB.ev h Hv1013).pick [] (by kernel_rfl))) ((gk32.ev Hv1013).pick [] (by kernel_rfl)) ((gk64.ev Hv1013).pick [] (by kernel_rfl))) ?_
    rintro _ wo1020 ⟨aoq1018, coq1018, rfl, he1021⟩
    refine ⟨_, _, _, rfl, he1021, rfl, fun ac1023 En1024 Hv1025 => ?_⟩
    refine ⟨fun _ => Hv1025.pk [], ?_⟩
    refine h_ways [19, 22] (by kernel_rfl) rfl ?_
    refine ⟨?_, ?_, trivial⟩
    ·
     rintro _ rfl
     refine op_str (d := some 128) (src := 23) (dst := 9) (e := 5) (ao := aoq1018) (cap := coq1018) (p := List.length (sumF h (List.flatMap (fun s : Sl UInt8 => s.l) g))) (bs := sumF h (List.flatMap (fun s : Sl UInt8 => s.l) g)) En1024 (by kernel_rfl) rfl (by kernel_rfl) (by kernel_rfl) (by kernel_rfl) (Hv1025.heap.reads (k := 0) rfl) (bys_vnz Hv1025.heap (k := 0) rfl) ?_
     intro ac1026 En1027
     refine ⟨fun _ => Hv1025.pk [], ?_⟩
     exact h_to hG (by kernel_rfl) (nd967 _ _ (En1027.sb) (Hv1025.pk [2, 3, 4]))
    ·
     rintro _ rfl
     refine c_0 En1024 Hv1025 (join_go _ a_g (List.length g) c_g g (by first | rfl | (simp; done) | (simp; omega) | omega) (i_g.go Hv1025 [] (by kernel_rfl) (fun _ h => (InB.ev h Hv1025).pick [] (by kernel_rfl))) hB) ?_
     rintro _ wo1030 ⟨aoq1028, coq1028, rfl, he1031⟩
     refine ⟨_, _, _, rfl, he1031, rfl, fun ac1033 En1034 Hv1035 => ?_⟩
     refine ⟨fun _ => Hv1035.pk [], ?_⟩
     exact h_to hG (by kernel_rfl) (nd997 _ _ aoq1018 coq1018 aoq1028 coq1028 (En1034.sb) (Hv1035.pk [0, 1, 3, 4, 5]))
   have nd1036 : ∀ (ac : Act) (wo : World) (aoq642 : _) (coq642 : _), Env ac 137 [(0, .int .i64 h), (1, .slice a_g (List.length g) c_g), (2, .int .i64 c), (8, pt bd), (9, .slice a9 (List.length (allF g c i)) c9), (10, ni i), (113, .bool true), (115, .slice aoq642 (List.length (sumF h (allF g c i))) coq642), (121, .string (bstr (sumF h (List.flatMap (fun s : Sl UInt8 => s.l) ([⟨a9, c9, allF g c i⟩] : List (Sl UInt8))))))] → Ev w [] wo [.box bd (([.int .i64 h] : List Value) ++ ((u32s (S32 h (allF g c i))) ++ ((u64s (S64 h (allF g c i))) ++ ([.slice ar (List.length (restH h (allF g c i))) cr, uv64 (UInt64.ofNat (List.length (allF g c i)))] : List Value)))) 58, .vec ar cr 1 (bys (restH h (allF g c i))) 5, .vec aoq642 coq642 1 (bys (sumF h (allF g c i))) 5, .vec a9 c9 1 (bys (allF g c i)) 5] → G 17 #[true, true, true, true, true, true, true, false, true, true, true, true, true, false, false, false, false, false, false, false, false, false, false, false, false, false, false, false, false] ac wo := by
    intro ac1037 wo1038 aoq642 coq642 En1039 Hv1040
    refine h_from hG ?_
    refine q_t 7 ?_
    refine op_str (d := some 116) (src := 23) (dst := 9) (e := 5) (ao := aoq642) (cap := coq642) (p := List.length (sumF h (allF g c i))) (bs := sumF h (allF g c i)) En1039 (by kernel_rfl) rfl (by kernel_rfl) (by kernel_rfl) (by kernel_rfl) (Hv1040.heap.reads (k := 2) rfl) (bys_vnz Hv1040.heap (k := 2) rfl) ?_
    intro ac1041 En1042
    refine ⟨fun _ => Hv1040.pk [], ?_⟩
    refine q_s [13,14,15,16,17,20,21] [(13, g_v (show (.bool (ByteArray.toList (bstr (sumF h (allF g c i))) == ByteArray.toList (bstr (sumF h (List.flatMap (fun s : Sl UInt8 => s.l) ([⟨a9, c9, allF g c i⟩] : List (Sl UInt8)))))) : Value) = .bool true by rw [Go.Dbr.bstr_eq (sumF h (allF g c i)) (sumF h (List.flatMap (fun s : Sl UInt8 => s.l) ([⟨a9, c9, allF g c i⟩] : List (Sl UInt8)))), show ((sumF h (allF g c i)) == (sumF h (List.flatMap (fun s : Sl UInt8 => s.l) ([⟨a9, c9, allF g c i⟩] : List (Sl UInt8))))) = true from (by simp)] <;> rfl))] 9 En1042 (Hv1040.pk []) fun ac1043 En1044 => ?_
    refine q_t 18 ?_
    refine c_0 En1044 Hv1040 (of_all _ h hh a_g (List.length g) c_g g (by first | rfl | (simp; done) | (simp; omega) | omega) (i_g.go Hv1040 [] (by kernel_rfl) (fun _ h => (InB.ev h Hv1040).pick [] (by kernel_rfl))) ((gk32.ev Hv1040).pick [] (by kernel_rfl)) ((gk64.ev Hv1040).pick [] (by kernel_rfl))) ?_
    rintro _ wo1047 ⟨aoq1045, coq1045, rfl, he1048⟩
    refine ⟨_, _, _, rfl, he1048, rfl, fun ac1050 En1051 Hv1052 => ?_⟩
    refine ⟨fun _ => Hv1052.pk [], ?_⟩
    refine h_ways [19, 22] (by kernel_rfl) rfl ?_
    refine ⟨?_, ?_, trivial⟩
    ·
     rintro _ rfl
     refine op_str (d := some 128) (src := 23) (dst := 9) (e := 5) (ao := aoq1045) (cap := coq1045) (p := List.length (sumF h (List.flatMap (fun s : Sl UInt8 => s.l) g))) (bs := sumF h (List.flatMap (fun s : Sl UInt8 => s.l) g)) En1051 (by kernel_rfl) rfl (by kernel_rfl) (by kernel_rfl) (by kernel_rfl) (Hv1052.heap.reads (k := 0) rfl) (bys_vnz Hv1052.heap (k := 0) rfl) ?_
     intro ac1053 En1054
     refine ⟨fun _ => Hv1052.pk [], ?_⟩
     exact h_to hG (by kernel_rfl) (nd967 _ _ (En1054.sb) (Hv1052.pk [1, 2, 4]))
    ·
     rintro _ rfl
     refine c_0 En1051 Hv1052 (join_go _ a_g (List.length g) c_g g (by first | rfl | (simp; done) | (simp; omega) | omega) (i_g.go Hv1052 [] (by kernel_rfl) (fun _ h => (InB.ev h Hv1052).pick [] (by kernel_rfl))) hB) ?_
     rintro _ wo1057 ⟨aoq1055, coq1055, rfl, he1058⟩
     refine ⟨_, _, _, rfl, he1058, rfl, fun ac1060 En1061 Hv1062 => ?_⟩
     refine ⟨fun _ => Hv1062.pk [], ?_⟩
     exact h_to hG (by kernel_rfl) (nd997 _ _ aoq1045 coq1045 aoq1055 coq1055 (En1061.sb) (Hv1062.pk [0, 1, 2, 3, 5]))
   have nd1063 : ∀ (ac : Act) (wo : World) (bk770 : Nat), Env ac 137 [(0, .int .i64 h), (1, .slice a_g (List.length g) c_g), (2, .int .i64 c), (8, pt bd), (9, .slice a9 (List.length (allF g c i)) c9), (10, ni i), (113, .bool true), (116, .string (bstr (sumF h (allF g c i)))), (117, .int .i64 h), (119, .slice (some ⟨bk770, 0, none⟩) 1 1)] → Ev w [] wo [.box bd (([.int .i64 h] : List Value) ++ ((u32s (S32 h (allF g c i))) ++ ((u64s (S64 h (allF g c i))) ++ ([.slice ar (List.length (restH h (allF g c i))) cr, uv64 (UInt64.ofNat (List.length (allF g c i)))] : List Value)))) 58, .vec ar cr 1 (bys (restH h (allF g c i))) 5, .vec a9 c9 1 (bys (allF g c i)) 5, .vec (some ⟨bk770, 0, none⟩) 1 1 [.slice a9 (List.length (allF g c i)) c9] 23] → G 18 #[true, true, true, true, true, true, true, true, true, true, true, false, false, false, false, false, false, false, false, false, false, false, false, false, false, false, false, false, false] ac wo := by
    intro ac1064 wo1065 bk770 En1066 Hv1067
    refine h_from hG ?_
    refine q_t 11 ?_
    refine c_0 En1066 Hv1067 (of_all _ h hh (some ⟨bk770, 0, none⟩) 1 1 ([⟨a9, c9, allF g c i⟩] : List (Sl UInt8)) (by first | rfl | (simp; done) | (simp; omega) | omega) ⟨Hv1067.heap.ro (k := 3) rfl [] (by kernel_rfl) rfl, (fun e => by cases e), (by simp), (by simp), (List.forall_mem_cons.2 ⟨(bys_in Hv1067.heap (k := 2) rfl [] (by kernel_rfl) rfl (by first | decide | (dsimp only; omega) | (simp; done) | (simp; omega) | omega)), (fun x h => absurd h List.not_mem_nil)⟩)⟩ ((gk32.ev Hv1067).pick [] (by kernel_rfl)) ((gk64.ev Hv1067).pick [] (by kernel_rfl))) ?_
    rintro _ wo1070 ⟨aoq1068, coq1068, rfl, he1071⟩
    refine ⟨_, _, _, rfl, he1071, rfl, fun ac1073 En1074 Hv1075 => ?_⟩
    refine ⟨fun _ => Hv1075.pk [], ?_⟩
    refine q_t 12 ?_
    refine op_str (d := some 121) (src := 23) (dst := 9) (e := 5) (ao := aoq1068) (cap := coq1068) (p := List.length (sumF h (List.flatMap (fun s : Sl UInt8 => s.l) ([⟨a9, c9, allF g c i⟩] : List (Sl UInt8))))) (bs := sumF h (List.flatMap (fun s : Sl UInt8 => s.l) ([⟨a9, c9, allF g c i⟩] : List (Sl UInt8)))) En1074 (by kernel_rfl) rfl (by kernel_rfl) (by kernel_rfl) (by kernel_rfl) (Hv1075.heap.reads (k := 0) rfl) (bys_vnz Hv1075.heap (k := 0) rfl) ?_
    intro ac1076 En1077
    refine ⟨fun _ => Hv1075.pk [], ?_⟩
    refine q_s [13,14,15,16,17,20,21] [(13, g_v (show (.bool (ByteArray.toList (bstr (sumF h (allF g c i))) == ByteArray.toList (bstr (sumF h (List.flatMap (fun s : Sl UInt8 => s.l) ([⟨a9, c9, allF g c i⟩] : List (Sl UInt8)))))) : Value) = .bool true by rw [Go.Dbr.bstr_eq (sumF h (allF g c i)) (sumF h (List.flatMap (fun s : Sl UInt8 => s.l) ([⟨a9, c9, allF g c i⟩] : List (Sl UInt8)))), show ((sumF h (allF g c i)) == (sumF h (List.flatMap (fun s : Sl UInt8 => s.l) ([⟨a9, c9, allF g c i⟩] : List (Sl UInt8))))) = true from (by simp)] <;> rfl))] 9 En1077 (Hv1075.pk []) fun ac1078 En1079 => ?_
    refine q_t 18 ?_
    refine c_0 En1079 Hv1075 (of_all _ h hh a_g (List.length g) c_g g (by first | rfl | (simp; done) | (simp; omega) | omega) (i_g.go Hv1075 [] (by kernel_rfl) (fun _ h => (InB.ev h Hv1075).pick [] (by kernel_rfl))) ((gk32.ev Hv1075).pick [] (by kernel_rfl)) ((gk64.ev Hv1075).pick [] (by kernel_rfl))) ?_
    rintro _ wo1082 ⟨aoq1080, coq1080, rfl, he1083⟩
    refine ⟨_, _, _, rfl, he1083, rfl, fun ac1085 En1086 Hv1087 => ?_⟩
    refine ⟨fun _ => Hv1087.pk [], ?_⟩
    refine h_ways [19, 22] (by kernel_rfl) rfl ?_
    refine ⟨?_, ?_, trivial⟩
    ·
     rintro _ rfl
     refine op_str (d := some 128) (src := 23) (dst := 9) (e := 5) (ao := aoq1080) (cap := coq1080) (p := List.length (sumF h (List.flatMap (fun s : Sl UInt8 => s.l) g))) (bs := sumF h (List.flatMap (fun s : Sl UInt8 => s.l) g)) En1086 (by kernel_rfl) rfl (by kernel_rfl) (by kernel_rfl) (by kernel_rfl) (Hv1087.heap.reads (k := 0) rfl) (bys_vnz Hv1087.heap (k := 0) rfl) ?_
     intro ac1088 En1089
     refine ⟨fun _ => Hv1087.pk [], ?_⟩
     exact h_to hG (by kernel_rfl) (nd967 _ _ (En1089.sb) (Hv1087.pk [2, 3, 4]))
    ·
     rintro _ rfl
     refine c_0 En1086 Hv1087 (join_go _ a_g (List.length g) c_g g (by first | rfl | (simp; done) | (simp; omega) | omega) (i_g.go Hv1087 [] (by kernel_rfl) (fun _ h => (InB.ev h Hv1087).pick [] (by kernel_rfl))) hB) ?_
     rintro _ wo1092 ⟨aoq1090, coq1090, rfl, he1093⟩
     refine ⟨_, _, _, rfl, he1093, rfl, fun ac1095 En1096 Hv1097 => ?_⟩
     refine ⟨fun _ => Hv1097.pk [], ?_⟩
     exact h_to hG (by kernel_rfl) (nd997 _ _ aoq1080 coq1080 aoq1090 coq1090 (En1096.sb) (Hv1097.pk [0, 1, 3, 4, 5]))
   have nd1098 : ∀ (ac : Act) (wo : World) (aoq642 : _) (coq642 : _) (aoq807 : _) (coq807 : _), Env ac 137 [(0, .int .i64 h), (1, .slice a_g (List.length g) c_g), (2, .int .i64 c), (8, pt bd), (9, .slice a9 (List.length (allF g c i)) c9), (10, ni i), (113, .bool true), (115, .slice aoq642 (List.length (sumF h (allF g c i))) coq642), (120, .slice aoq807 (List.length (sumF h (List.flatMap (fun s : Sl UInt8 => s.l) ([⟨a9, c9, allF g c i⟩] : List (Sl UInt8))))) coq807)] → Ev w [] wo [.vec aoq807 coq807 1 (bys (sumF h (List.flatMap (fun s : Sl UInt8 => s.l) ([⟨a9, c9, allF g c i⟩] : List (Sl UInt8))))) 5, .box bd (([.int .i64 h] : List Value) ++ ((u32s (S32 h (allF g c i))) ++ ((u64s (S64 h (allF g c i))) ++ ([.slice ar (List.length (restH h (allF g c i))) cr, uv64 (UInt64.ofNat (List.length (allF g c i)))] : List Value)))) 58, .vec ar cr 1 (bys (restH h (allF g c i))) 5, .vec aoq642 coq642 1 (bys (sumF h (allF g c i))) 5, .vec a9 c9 1 (bys (allF g c i)) 5] → G 18 #[true, true, true, true, true, true, true, false, true, true, true, true, false, false, false, false, false, false, false, false, false, false, false, false, false, false, false, false, false] ac wo := by
    intro ac1099 wo1100 aoq642 coq642 aoq807 coq807 En1101 Hv1102
    refine h_from hG ?_
    refine h_ways [7, 12] (by kernel_rfl) rfl ?_
    refine ⟨?_, ?_, trivial⟩
    ·
     rintro _ rfl
     refine op_str (d := some 116) (src := 23) (dst := 9) (e := 5) (ao := aoq642) (cap := coq642) (p := List.length (sumF h (allF g c i))) (bs := sumF h (allF g c i)) En1101 (by kernel_rfl) rfl (by kernel_rfl) (by kernel_rfl) (by kernel_rfl) (Hv1102.heap.reads (k := 3) rfl) (bys_vnz Hv1102.heap (k := 3) rfl) ?_
     intro ac1103 En1104
     refine ⟨fun _ => Hv1102.pk [], ?_⟩
     exact h_to hG (by kernel_rfl) (nd1009 _ _ aoq807 coq807 (En1104.sb) (Hv1102.pk [0, 1, 2, 4]))
    ·
     rintro _ rfl
     refine op_str (d := some 121) (src := 23) (dst := 9) (e := 5) (ao := aoq807) (cap := coq807) (p := List.length (sumF h (List.flatMap (fun s : Sl UInt8 => s.l) ([⟨a9, c9, allF g c i⟩] : List (Sl UInt8))))) (bs := sumF h (List.flatMap (fun s : Sl UInt8 => s.l) ([⟨a9, c9, allF g c i⟩] : List (Sl UInt8)))) En1101 (by kernel_rfl) rfl (by kernel_rfl) (by kernel_rfl) (by kernel_rfl) (Hv1102.heap.reads (k := 0) rfl) (bys_vnz Hv1102.heap (k := 0) rfl) ?_
     intro ac1105 En1106
     refine ⟨fun _ => Hv1102.pk [], ?_⟩
     exact h_to hG (by kernel_rfl) (nd1036 _ _ aoq642 coq642 (En1106.sb) (Hv1102.pk [1, 2, 3, 4]))
   have nd1107 : ∀ (ac : Act) (wo : World), Env ac 137 [(0, .int .i64 h), (1, .slice a_g (List.length g) c_g), (2, .int .i64 c), (8, pt bd), (9, .slice a9 (List.length (allF g c i)) c9), (10, ni i), (113, .bool true), (116, .string (bstr (sumF h (allF g c i)))), (117, .int .i64 h), (118, .slice a9 (List.length (allF g c i)) c9)] → Ev w [] wo [.box bd (([.int .i64 h] : List Value) ++ ((u32s (S32 h (allF g c i))) ++ ((u64s (S64 h (allF g c i))) ++ ([.slice ar (List.length (restH h (allF g c i))) cr, uv64 (UInt64.ofNat (List.length (allF g c i)))] : List Value)))) 58, .vec ar cr 1 (bys (restH h (allF g c i))) 5, .vec a9 c9 1 (bys (allF g c i)) 5] → G 19 #[true, true, true, true, true, true, true, true, true, true, false, false, false, false, false, false, false, false, false, false, false, false, false, false, false, false, false, false, false] ac wo := by
    intro ac1108 wo1109 En1110 Hv1111
    refine h_from hG ?_
    refine q_t 10 ?_
    refine op_lit (d := some 119) (t := 30) (T := 23) (m := 1) (parts := #[(0, .slice a9 (List.length (allF g c i)) c9)]) (xs := [.slice a9 (List.length (allF g c i)) c9]) (sz := 1) En1110 (by kernel_rfl) (by kernel_rfl) rfl (by decide) Hv1111 ?_
    intro ac1113 wo1114 bk1112 En1115 Hv1116
    refine ⟨fun _ => Hv1116.pk [], ?_⟩
    refine q_t 11 ?_
    refine c_0 En1115 Hv1116 (of_all _ h hh (some ⟨bk1112, 0, none⟩) 1 1 ([⟨a9, c9, allF g c i⟩] : List (Sl UInt8)) (by first | rfl | (simp; done) | (simp; omega) | omega) ⟨Hv1116.heap.ro (k := 3) rfl [] (by kernel_rfl) rfl, (fun e => by cases e), (by simp), (by simp), (List.forall_mem_cons.2 ⟨(bys_in Hv1116.heap (k := 2) rfl [] (by kernel_rfl) rfl (by first | decide | (dsimp only; omega) | (simp; done) | (simp; omega) | omega)), (fun x h => absurd h List.not_mem_nil)⟩)⟩ ((gk32.ev Hv1116).pick [] (by kernel_rfl)) ((gk64.ev Hv1116).pick [] (by kernel_rfl))) ?_
    rintro _ wo1119 ⟨aoq1117, coq1117, rfl, he1120⟩
    refine ⟨_, _, _, rfl, he1120, rfl, fun ac1122 En1123 Hv1124 => ?_⟩
    refine ⟨fun _ => Hv1124.pk [], ?_⟩
    refine q_t 12 ?_
    refine op_str (d := some 121) (src := 23) (dst := 9) (e := 5) (ao := aoq1117) (cap := coq1117) (p := List.length (sumF h (List.flatMap (fun s : Sl UInt8 => s.l) ([⟨a9, c9, allF g c i⟩] : List (Sl UInt8))))) (bs := sumF h (List.flatMap (fun s : Sl UInt8 => s.l) ([⟨a9, c9, allF g c i⟩] : List (Sl UInt8)))) En1123 (by kernel_rfl) rfl (by kernel_rfl) (by kernel_rfl) (by kernel_rfl) (Hv1124.heap.reads (k := 0) rfl) (bys_vnz Hv1124.heap (k := 0) rfl) ?_
    intro ac1125 En1126
    refine ⟨fun _ => Hv1124.pk [], ?_⟩
    refine q_s [13,14,15,16,17,20,21] [(13, g_v (show (.bool (ByteArray.toList (bstr (sumF h (allF g c i))) == ByteArray.toList (bstr (sumF h (List.flatMap (fun s : Sl UInt8 => s.l) ([⟨a9, c9, allF g c i⟩] : List (Sl UInt8)))))) : Value) = .bool true by rw [Go.Dbr.bstr_eq (sumF h (allF g c i)) (sumF h (List.flatMap (fun s : Sl UInt8 => s.l) ([⟨a9, c9, allF g c i⟩] : List (Sl UInt8)))), show ((sumF h (allF g c i)) == (sumF h (List.flatMap (fun s : Sl UInt8 => s.l) ([⟨a9, c9, allF g c i⟩] : List (Sl UInt8))))) = true from (by simp)] <;> rfl))] 9 En1126 (Hv1124.pk []) fun ac1127 En1128 => ?_
    refine q_t 18 ?_
    refine c_0 En1128 Hv1124 (of_all _ h hh a_g (List.length g) c_g g (by first | rfl | (simp; done) | (simp; omega) | omega) (i_g.go Hv1124 [] (by kernel_rfl) (fun _ h => (InB.ev h Hv1124).pick [] (by kernel_rfl))) ((gk32.ev Hv1124).pick [] (by kernel_rfl)) ((gk64.ev Hv1124).pick [] (by kernel_rfl))) ?_
    rintro _ wo1131 ⟨aoq1129, coq1129, rfl, he1132⟩
    refine ⟨_, _, _, rfl, he1132, rfl, fun ac1134 En1135 Hv1136 => ?_⟩
    refine ⟨fun _ => Hv1136.pk [], ?_⟩
    refine h_ways [19, 22] (by kernel_rfl) rfl ?_
    refine ⟨?_, ?_, trivial⟩
    ·
     rintro _ rfl
     refine op_str (d := some 128) (src := 23) (dst := 9) (e := 5) (ao := aoq1129) (cap := coq1129) (p := List.length (sumF h (List.flatMap (fun s : Sl UInt8 => s.l) g))) (bs := sumF h (List.flatMap (fun s : Sl UInt8 => s.l) g)) En1135 (by kernel_rfl) rfl (by kernel_rfl) (by kernel_rfl) (by kernel_rfl) (Hv1136.heap.reads (k := 0) rfl) (bys_vnz Hv1136.heap (k := 0) rfl) ?_
     intro ac1137 En1138
     refine ⟨fun _ => Hv1136.pk [], ?_⟩
     exact h_to hG (by kernel_rfl) (nd967 _ _ (En1138.sb) (Hv1136.pk [2, 3, 4]))
    ·
     rintro _ rfl
     refine c_0 En1135 Hv1136 (join_go _ a_g (List.length g) c_g g (by first | rfl | (simp; done) | (simp; omega) | omega) (i_g.go Hv1136 [] (by kernel_rfl) (fun _ h => (InB.ev h Hv1136).pick [] (by kernel_rfl))) hB) ?_
     rintro _ wo1141 ⟨aoq1139, coq1139, rfl, he1142⟩
     refine ⟨_, _, _, rfl, he1142, rfl, fun ac1144 En1145 Hv1146 => ?_⟩
     refine ⟨fun _ => Hv1146.pk [], ?_⟩
     exact h_to hG (by kernel_rfl) (nd997 _ _ aoq1129 coq1129 aoq1139 coq1139 (En1145.sb) (Hv1146.pk [0, 1, 3, 4, 5]))
   have nd1147 : ∀ (ac : Act) (wo : World) (aoq642 : _) (coq642 : _) (bk770 : Nat), Env ac 137 [(0, .int .i64 h), (1, .slice a_g (List.length g) c_g), (2, .int .i64 c), (8, pt bd), (9, .slice a9 (List.length (allF g c i)) c9), (10, ni i), (113, .bool true), (115, .slice aoq642 (List.length (sumF h (allF g c i))) coq642), (117, .int .i64 h), (119, .slice (some ⟨bk770, 0, none⟩) 1 1)] → Ev w [] wo [.box bd (([.int .i64 h] : List Value) ++ ((u32s (S32 h (allF g c i))) ++ ((u64s (S64 h (allF g c i))) ++ ([.slice ar (List.length (restH h (allF g c i))) cr, uv64 (UInt64.ofNat (List.length (allF g c i)))] : List Value)))) 58, .vec ar cr 1 (bys (restH h (allF g c i))) 5, .vec aoq642 coq642 1 (bys (sumF h (allF g c i))) 5, .vec a9 c9 1 (bys (allF g c i)) 5, .vec (some ⟨bk770, 0, none⟩) 1 1 [.slice a9 (List.length (allF g c i)) c9] 23] → G 19 #[true, true, true, true, true, true, true, false, true, true, true, false, false, false, false, false, false, false, false, false, false, false, false, false, false, false, false, false, false] ac wo := by
    intro ac1148 wo1149 aoq642 coq642 bk770 En1150 Hv1151
    refine h_from hG ?_
    refine h_ways [7, 11] (by kernel_rfl) rfl ?_
    refine ⟨?_, ?_, trivial⟩
    ·
     rintro _ rfl
     refine op_str (d := some 116) (src := 23) (dst := 9) (e := 5) (ao := aoq642) (cap := coq642) (p := List.length (sumF h (allF g c i))) (bs := sumF h (allF g c i)) En1150 (by kernel_rfl) rfl (by kernel_rfl) (by kernel_rfl) (by kernel_rfl) (Hv1151.heap.reads (k := 2) rfl) (bys_vnz Hv1151.heap (k := 2) rfl) ?_
     intro ac1152 En1153
     refine ⟨fun _ => Hv1151.pk [], ?_⟩
     exact h_to hG (by kernel_rfl) (nd1063 _ _ bk770 (En1153.sb) (Hv1151.pk [0, 1, 3, 4]))
    ·
     rintro _ rfl
     refine c_0 En1150 Hv1151 (of_all _ h hh (some ⟨bk770, 0, none⟩) 1 1 ([⟨a9, c9, allF g c i⟩] : List (Sl UInt8)) (by first | rfl | (simp; done) | (simp; omega) | omega) ⟨Hv1151.heap.ro (k := 4) rfl [] (by kernel_rfl) rfl, (fun e => by cases e), (by simp), (by simp), (List.forall_mem_cons.2 ⟨(bys_in Hv1151.heap (k := 3) rfl [] (by kernel_rfl) rfl (by first | decide | (dsimp only; omega) | (simp; done) | (simp; omega) | omega)), (fun x h => absurd h List.not_mem_nil)⟩)⟩ ((gk32.ev Hv1151).pick [] (by kernel_rfl)) ((gk64.ev Hv1151).pick [] (by kernel_rfl))) ?_
     rintro _ wo1156 ⟨aoq1154, coq1154, rfl, he1157⟩
     refine ⟨_, _, _, rfl, he1157, rfl, fun ac1159 En1160 Hv1161 => ?_⟩
     refine ⟨fun _ => Hv1161.pk [], ?_⟩
     exact h_to hG (by kernel_rfl) (nd1098 _ _ aoq642 coq642 aoq1154 coq1154 (En1160.sb) (Hv1161.pk [0, 1, 2, 3, 4]))
   have nd1162 : ∀ (ac : Act) (wo : World) (aoq642 : _) (coq642 : _), Env ac 137 [(0, .int .i64 h), (1, .slice a_g (List.length g) c_g), (2, .int .i64 c), (8, pt bd), (9, .slice a9 (List.length (allF g c i)) c9), (10, ni i), (113, .bool true), (115, .slice aoq642 (List.length (sumF h (allF g c i))) coq642), (117, .int .i64 h), (118, .slice a9 (List.length (allF g c i)) c9)] → Ev w [] wo [.box bd (([.int .i64 h] : List Value) ++ ((u32s (S32 h (allF g c i))) ++ ((u64s (S64 h (allF g c i))) ++ ([.slice ar (List.length (restH h (allF g c i))) cr, uv64 (UInt64.ofNat (List.length (allF g c i)))] : List Value)))) 58, .vec ar cr 1 (bys (restH h (allF g c i))) 5, .vec aoq642 coq642 1 (bys (sumF h (allF g c i))) 5, .vec a9 c9 1 (bys (allF g c i)) 5] → G 20 #[true, true, true, true, true, true, true, false, true, true, false, false, false, false, false, false, false, false, false, false, false, false, false, false, false, false, false, false, false] ac wo := by
    intro ac1163 wo1164 aoq642 coq642 En1165 Hv1166
    refine h_from hG ?_
    refine h_ways [7, 10] (by kernel_rfl) rfl ?_
    refine ⟨?_, ?_, trivial⟩
    ·
     rintro _ rfl
     refine op_str (d := some 116) (src := 23) (dst := 9) (e := 5) (ao := aoq642) (cap := coq642) (p := List.length (sumF h (allF g c i))) (bs := sumF h (allF g c i)) En1165 (by kernel_rfl) rfl (by kernel_rfl) (by kernel_rfl) (by kernel_rfl) (Hv1166.heap.reads (k := 2) rfl) (bys_vnz Hv1166.heap (k := 2) rfl) ?_
     intro ac1167 En1168
     refine ⟨fun _ => Hv1166.pk [], ?_⟩
     exact h_to hG (by kernel_rfl) (nd1107 _ _ (En1168.sb) (Hv1166.pk [0, 1, 3]))
    ·
     rintro _ rfl
     refine op_lit (d := some 119) (t := 30) (T := 23) (m := 1) (parts := #[(0, .slice a9 (List.length (allF g c i)) c9)]) (xs := [.slice a9 (List.length (allF g c i)) c9]) (sz := 1) En1165 (by kernel_rfl) (by kernel_rfl) rfl (by decide) Hv1166 ?_
     intro ac1170 wo1171 bk1169 En1172 Hv1173
     refine ⟨fun _ => Hv1173.pk [], ?_⟩
     exact h_to hG (by kernel_rfl) (nd1147 _ _ aoq642 coq642 bk1169 (En1172.sb) (Hv1173.pk [0, 1, 2, 3, 4]))
   have nd1174 : ∀ (ac : Act) (wo : World) (bk863 : Nat), Env ac 137 [(0, .int .i64 h), (1, .slice a_g (List.length g) c_g), (2, .int .i64 c), (8, pt bd), (9, .slice a9 (List.length (allF g c i)) c9), (10, ni i), (113, .bool true), (114, pt bd), (117, .int .i64 h), (119, .slice (some ⟨bk863, 0, none⟩) 1 1)] → Ev w [] wo [.box bd (([.int .i64 h] : List Value) ++ ((u32s (S32 h (allF g c i))) ++ ((u64s (S64 h (allF g c i))) ++ ([.slice ar (List.length (restH h (allF g c i))) cr, uv64 (UInt64.ofNat (List.length (allF g c i)))] : List Value)))) 58, .vec ar cr 1 (bys (restH h (allF g c i))) 5, .vec a9 c9 1 (bys (allF g c i)) 5, .vec (some ⟨bk863, 0, none⟩) 1 1 [.slice a9 (List.length (allF g c i)) c9] 23] → G 20 #[true, true, true, true, true, true, false, false, true, true, true, false, false, false, false, false, false, false, false, false, false, false, false, false, false, false, false, false, false] ac wo := by
    intro ac1175 wo1176 bk863 En1177 Hv1178
    refine h_from hG ?_
    refine q_t 6 ?_
    refine c_l [0,1] (M := [.box bd (([.int .i64 h] : List Value) ++ ((u32s (S32 h (allF g c i))) ++ ((u64s (S64 h (allF g c i))) ++ ([.slice ar (List.length (restH h (allF g c i))) cr, uv64 (UInt64.ofNat (List.length (allF g c i)))] : List Value)))) 58, .vec ar cr 1 (bys (restH h (allF g c i))) 5]) En1177 Hv1178 (fun hM1180 => sum_go _ bd h hh (allF g c i) ar cr ((gk32.ev Hv1178).pick [0, 1] (by kernel_rfl)) ((gk64.ev Hv1178).pick [0, 1] (by kernel_rfl)) hM1180) ?_
    rintro _ wo1181 ⟨aoq1179, coq1179, rfl, he1182⟩
    refine ⟨_, _, [.box bd (([.int .i64 h] : List Value) ++ ((u32s (S32 h (allF g c i))) ++ ((u64s (S64 h (allF g c i))) ++ ([.slice ar (List.length (restH h (allF g c i))) cr, uv64 (UInt64.ofNat (List.length (allF g c i)))] : List Value)))) 58, .vec ar cr 1 (bys (restH h (allF g c i))) 5, .vec aoq1179 coq1179 1 (bys (sumF h (allF g c i))) 5, .vec a9 c9 1 (bys (allF g c i)) 5, .vec (some ⟨bk863, 0, none⟩) 1 1 [.slice a9 (List.length (allF g c i)) c9] 23], rfl, he1182, by kernel_rfl, fun ac1184 En1185 Hv1186 => ?_⟩
    refine ⟨fun _ => Hv1186.pk [], ?_⟩
    refine h_ways [7, 11] (by kernel_rfl) rfl ?_
    refine ⟨?_, ?_, trivial⟩
    ·
     rintro _ rfl
     refine op_str (d := some 116) (src := 23) (dst := 9) (e := 5) (ao := aoq1179) (cap := coq1179) (p := List.length (sumF h (allF g c i))) (bs := sumF h (allF g c i)) En1185 (by kernel_rfl) rfl (by kernel_rfl) (by kernel_rfl) (by kernel_rfl) (Hv1186.heap.reads (k := 2) rfl) (bys_vnz Hv1186.heap (k := 2) rfl) ?_
     intro ac1187 En1188
     refine ⟨fun _ => Hv1186.pk [], ?_⟩
     exact h_to hG (by kernel_rfl) (nd1063 _ _ bk863 (En1188.sb) (Hv1186.pk [0, 1, 3, 4]))
    ·
     rintro _ rfl
     refine c_0 En1185 Hv1186 (of_all _ h hh (some ⟨bk863, 0, none⟩) 1 1 ([⟨a9, c9, allF g c i⟩] : List (Sl UInt8)) (by first | rfl | (simp; done) | (simp; omega) | omega) ⟨Hv1186.heap.ro (k := 4) rfl [] (by kernel_rfl) rfl, (fun e => by cases e), (by simp), (by simp), (List.forall_mem_cons.2 ⟨(bys_in Hv1186.heap (k := 3) rfl [] (by kernel_rfl) rfl (by first | decide | (dsimp only; omega) | (simp; done) | (simp; omega) | omega)), (fun x h => absurd h List.not_mem_nil)⟩)⟩ ((gk32.ev Hv1186).pick [] (by kernel_rfl)) ((gk64.ev Hv1186).pick [] (by kernel_rfl))) ?_
     rintro _ wo1191 ⟨aoq1189, coq1189, rfl, he1192⟩
     refine ⟨_, _, _, rfl, he1192, rfl, fun ac1194 En1195 Hv1196 => ?_⟩
     refine ⟨fun _ => Hv1196.pk [], ?_⟩
     exact h_to hG (by kernel_rfl) (nd1098 _ _ aoq1179 coq1179 aoq1189 coq1189 (En1195.sb) (Hv1196.pk [0, 1, 2, 3, 4]))
   refine h_from hG ?_
   refine q_s [0,2] [] 27 En50 (wo375.pk []) fun ac1197 En1198 => ?_
   refine q_t 1 ?_
   refine c_l [0,1] (M := [.box bd (([.int .i64 h] : List Value) ++ ((u32s (S32 h (allF g c i))) ++ ((u64s (S64 h (allF g c i))) ++ ([.slice ar (List.length (restH h (allF g c i))) cr, uv64 (UInt64.ofNat (List.length (allF g c i)))] : List Value)))) 58, .vec ar cr 1 (bys (restH h (allF g c i))) 5]) En1198 wo375 (fun hM1199 => hash_go _ bd h (allF g c i) ar cr hM1199) ?_
   rintro _ wo1200 ⟨rfl, he1201⟩
   refine ⟨_, _, [.box bd (([.int .i64 h] : List Value) ++ ((u32s (S32 h (allF g c i))) ++ ((u64s (S64 h (allF g c i))) ++ ([.slice ar (List.length (restH h (allF g c i))) cr, uv64 (UInt64.ofNat (List.length (allF g c i)))] : List Value)))) 58, .vec ar cr 1 (bys (restH h (allF g c i))) 5, .vec a9 c9 1 (bys (allF g c i)) 5], rfl, he1201, by kernel_rfl, fun ac1203 En1204 Hv1205 => ?_⟩
   refine ⟨fun _ => Hv1205.pk [], ?_⟩
   refine q_s [3,4,5,8,9] [(3, g_b (show (h == h) = true from (by simp)))] 21 En1204 (Hv1205.pk []) fun ac1206 En1207 => ?_
   refine h_ways [6, 10] (by kernel_rfl) rfl ?_
   refine ⟨?_, ?_, trivial⟩
   ·
    rintro _ rfl
    refine c_l [0,1] (M := [.box bd (([.int .i64 h] : List Value) ++ ((u32s (S32 h (allF g c i))) ++ ((u64s (S64 h (allF g c i))) ++ ([.slice ar (List.length (restH h (allF g c i))) cr, uv64 (UInt64.ofNat (List.length (allF g c i)))] : List Value)))) 58, .vec ar cr 1 (bys (restH h (allF g c i))) 5]) En1207 Hv1205 (fun hM1209 => sum_go _ bd h hh (allF g c i) ar cr ((gk32.ev Hv1205).pick [0, 1] (by kernel_rfl)) ((gk64.ev Hv1205).pick [0, 1] (by kernel_rfl)) hM1209) ?_
    rintro _ wo1210 ⟨aoq1208, coq1208, rfl, he1211⟩
    refine ⟨_, _, [.box bd (([.int .i64 h] : List Value) ++ ((u32s (S32 h (allF g c i))) ++ ((u64s (S64 h (allF g c i))) ++ ([.slice ar (List.length (restH h (allF g c i))) cr, uv64 (UInt64.ofNat (List.length (allF g c i)))] : List Value)))) 58, .vec ar cr 1 (bys (restH h (allF g c i))) 5, .vec aoq1208 coq1208 1 (bys (sumF h (allF g c i))) 5, .vec a9 c9 1 (bys (allF g c i)) 5], rfl, he1211, by kernel_rfl, fun ac1213 En1214 Hv1215 => ?_⟩
    refine ⟨fun _ => Hv1215.pk [], ?_⟩
    exact h_to hG (by kernel_rfl) (nd1162 _ _ aoq1208 coq1208 (En1214.sb) (Hv1215.pk [0, 1, 2, 3]))
   ·
    rintro _ rfl
    refine op_lit (d := some 119) (t := 30) (T := 23) (m := 1) (parts := #[(0, .slice a9 (List.length (allF g c i)) c9)]) (xs := [.slice a9 (List.length (allF g c i)) c9]) (sz := 1) En1207 (by kernel_rfl) (by kernel_rfl) rfl (by decide) Hv1205 ?_
    intro ac1217 wo1218 bk1216 En1219 Hv1220
    refine ⟨fun _ => Hv1220.pk [], ?_⟩
    exact h_to hG (by kernel_rfl) (nd1174 _ _ bk1216 (En1219.sb) (Hv1220.pk [0, 1, 2, 3]))
  rintro ac1221 wo1222 ⟨En1223, Hv1224⟩
  refine then_normal ?_
  refine wp_ret ?_
  refine d_ret1 (t := 6) (v := .bool true) En1223 (by kernel_rfl) (by kernel_rfl) ?_
  exact ⟨rfl, Hv1224.pk []⟩

theorem pieces_bad (h : Int) (a_g : Option Addr) (c_g : Nat) (g : List (Sl UInt8)) (c : Int) (w : World) (b_h : (-9223372036854775808 ≤ h ∧ h ≤ 9223372036854775807)) (i_g : InS (fun s : Sl UInt8 => s.f) 24 (fun x : Sl UInt8 => InB w [] x.a x.c x.l) w [] a_g c_g g) (b_c : (-9223372036854775808 ≤ c ∧ c ≤ 9223372036854775807)) (hB : ((List.map (fun x => List.length x.l + 1) g).sum) ≤ 1048576) (hh : ¬ (h = 1 ∨ h = 2 ∨ h = 3)) (gk32 : InU32 w [] (some ⟨0, 0, none⟩) 64 K32) (gk64 : InU64 w [] (some ⟨1, 0, none⟩) 80 K64) : Calls Tryd.prog 5 #[.int .i64 h, .slice a_g (List.length g) c_g, .int .i64 c] w fun e w' => e = .returned (.bool true) ∧ Ev w [] w' [] := by
 have hsz : sizeOfH h = 0 := by unfold sizeOfH; rw [if_neg (by omega), if_neg (by omega), if_neg (by omega)]
 have hsl := i_g.small
 have hcl := i_g.cap
 have hs64 := size_le h
 refine d_0 [(0, .int .i64 h), (1, .slice a_g (List.length g) c_g), (2, .int .i64 c)] 137 Go.Proofs.Tryd.func5 Go.Proofs.Tryd.ntmps5 (Heap.nil _) fun act0 En0 Hv0 => ?_
 refine wp_seq ?_
 refine d_r [0,1,2,6] [] En0 fun ac1 En2 => ?_
 refine then_normal ?_
 refine wp_seq ?_
 refine region_from ?_
 refine f_o ?_
 refine c_p En2 Hv0 (head5_ok _ ((gk32.ev Hv0).pick [] (by kernel_rfl)) ((gk64.ev Hv0).pick [] (by kernel_rfl))) fun ac7 wo4 En8 Hv9 => ?_
 refine d_e [0,1,2,6,7] [] En8 fun ac10 En11 => ?_
 refine then_normal ?_
 refine wp_seq ?_
 refine region_from ?_
 refine d_k [0,1,2,6,7,17] [] 1 En11 fun ac12 En13 => ?_
 refine f_o ?_
 refine c_p En13 Hv9 (new0 _ h hh) fun ac18 wo15 En19 Hv20 => ?_
 refine d_e [0,1,2,6,7,8] [] En19 fun ac21 En22 => ?_
 refine then_normal ?_
 refine wp_seq ?_
 refine wp_seq ?_
 refine region_from ?_
 refine d_k [0,1,2,6,8,21,23,24] [] 6 En22 fun ac23 En24 => ?_
 refine f_o ?_
 refine c_p En24 Hv20 (size_go _ h) fun ac29 wo26 En30 Hv31 => ?_
 refine d_e [0,1,2,6,8,28] [(7, g_b (show (((sizeOfH h : Nat) : Int) == (0 : Int)) = true from (by first | (rw [hsz]; rfl) | exact beq_eq_false_iff_ne.2 (by omega))))] En30 fun ac32 En33 => ?_
 refine then_normal ?_
 refine c_f En33 ?_
 refine wp_skip ?_
 refine then_normal ?_
 refine wp_seq ?_
 refine wp_seq ?_
 refine d_r [0,1,2,6,8,30] [] En33 fun ac34 En35 => ?_
 refine then_normal ?_
 refine c_t En35 ?_
 refine wp_seq ?_
 refine region_from ?_
 refine d_k [0,1,2,6,8,31,32] [] 2 En35 fun ac36 En37 => ?_
 refine f_o ?_
 refine c_p En37 Hv31 (of_nil _ h hh a_g (List.length g) c_g g (by first | rfl | (simp; done) | (simp; omega) | omega) (i_g.go Hv31 [] (by kernel_rfl) (fun _ h => (InB.ev h Hv31).pick [] (by kernel_rfl)))) fun ac43 wo40 En44 Hv45 => ?_
 refine d_e [0,1,2,6,8] [(4, g_b (show (true) = true from (by rfl)))] En44 fun ac46 En47 => ?_
 refine then_normal ?_
 refine wp_ret ?_
 refine then_ret ?_
 refine d_ret1 (t := 6) (v := .bool true) En47 (by kernel_rfl) (by kernel_rfl) ?_
 exact ⟨rfl, Hv45.pk []⟩

theorem pieces_walk (h : Int) (a_g : Option Addr) (c_g : Nat) (g : List (Sl UInt8)) (c : Int) (w : World) (b_h : (-9223372036854775808 ≤ h ∧ h ≤ 9223372036854775807)) (i_g : InS (fun s : Sl UInt8 => s.f) 24 (fun x : Sl UInt8 => InB w [] x.a x.c x.l) w [] a_g c_g g) (b_c : (-9223372036854775808 ≤ c ∧ c ≤ 9223372036854775807)) (hB : ((List.map (fun x => List.length x.l + 1) g).sum) ≤ 1048576) (gk32 : InU32 w [] (some ⟨0, 0, none⟩) 64 K32) (gk64 : InU64 w [] (some ⟨1, 0, none⟩) 80 K64) : Calls Tryd.prog 5 #[.int .i64 h, .slice a_g (List.length g) c_g, .int .i64 c] w fun e w' => e = .returned (.bool true) ∧ Ev w [] w' [] := by
  by_cases hh : h = 1 ∨ h = 2 ∨ h = 3
  · exact pieces_ok h a_g c_g g c w b_h i_g b_c hB hh gk32 gk64
  · exact pieces_bad h a_g c_g g c w b_h i_g b_c hB hh gk32 gk64

end Go.Proofs.YtbpihljkkkeijaaDoor
