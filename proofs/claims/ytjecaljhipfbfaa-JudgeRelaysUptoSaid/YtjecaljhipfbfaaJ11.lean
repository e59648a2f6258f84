/- JudgeRelays: its walk. -/
import Derived.Test.YtjecaljhipfbfaaJ10
namespace Go.Proofs.Ytjecaljhipfbfaa
open Go.Dbr
set_option maxRecDepth 100000
set_option maxHeartbeats 2000000
set_option linter.unusedVariables false
set_option linter.unusedSimpArgs false

theorem bys_max {w : World} {L : List Ent} (h : Heap w L) {k : Nat} {a : Option Addr} {cap : Nat} {l : List UInt8} {T : TypeId} (hk : L[k]? = some (.vec a cap 1 (bys l) T)) : l.length ≤ 9223372036854775807 := by
  have hh := h.holds k _ hk
  cases a with
  | none => have h2 := bys_vnz h hk rfl; omega
  | some ad =>
    have h2 := hh.2.1
    have h3 := hh.2.2.1
    simp only [maxLen] at h2
    rw [bys_length] at h3
    omega
theorem sum_take {α : Type} (f : α → Nat) {l : List α} {k : Nat} {x : α} (h : l[k]? = some x) : (List.map f (List.take (k + 1) l)).sum = (List.map f (List.take k l)).sum + f x := by
  rw [List.take_add_one, h, List.map_append, List.sum_append]
  simp
theorem sum_take_le {α : Type} (f : α → Nat) (l : List α) (k : Nat) : (List.map f (List.take k l)).sum ≤ (List.map f l).sum := by
  conv => rhs; rw [← List.take_append_drop k l, List.map_append, List.sum_append]
  omega
theorem Rel.len {R : Rel} (h : R.ok) : R.up.length + R.br.length = R.hdr.length + R.fw.length ∧ R.down.length + R.fr.length = R.bw.length := by
  obtain ⟨h1, h2, _, _⟩ := h
  have a := congrArg List.length h1
  have b := congrArg List.length h2
  simp only [List.length_append] at a b
  omega
theorem sum_step {α : Type} (f : α → Nat) {l : List α} {k : Nat} {x : α} (h : l[k]? = some x) : (List.map f (List.take k l)).sum + f x ≤ (List.map f l).sum := by
  rw [← sum_take f h]
  exact sum_take_le f l (k + 1)
def Rel.size (R : Rel) : Nat := R.hdr.length + R.fw.length + R.bw.length
theorem Rel.size_write (R : Rel) (s : Int) (b : List UInt8) : (R.write s b).size ≤ R.size + b.length := by
  unfold Rel.write Rel.size
  split <;> (try split) <;> (try split) <;> simp <;> omega
theorem Rel.size_close (R : Rel) (s : Int) : (R.close s).size = R.size := by
  unfold Rel.close Rel.size
  split <;> (try split) <;> rfl
theorem Rel.size_read (R : Rel) (s n : Int) : (R.read s n).size = R.size := by
  unfold Rel.read Rel.size
  split <;> (try split) <;> rfl
theorem Rel.sizes {a1 a2 a3 a4 a5 a6 a7 : List UInt8} {b1 b2 b3 b4 : Bool} (h : Rel.ok ⟨a1, a2, a3, a4, a5, b1, b2, a6, a7, b3, b4⟩) {n : Nat} (hn : Rel.size ⟨a1, a2, a3, a4, a5, b1, b2, a6, a7, b3, b4⟩ ≤ n) :
    a1.length + a2.length + a3.length + a4.length + a5.length + a6.length + a7.length ≤ 3 * n := by
  have := Rel.len h
  unfold Rel.size at hn
  simp only at this hn
  omega

theorem relays_walk (a_x : Option Addr) (c_x : Nat) (x : List UInt8) (a_l : Option Addr) (c_l : Nat) (l : List ((Int) × (Int) × (Sl UInt8) × (Int) × Unit)) (w : World) (i_x : InB w [] a_x c_x x) (i_l : InS (fun p : (Int) × (Int) × (Sl UInt8) × (Int) × Unit => (fun n : Int => [.int .i64 n]) p.1 ++ (fun p : (Int) × (Sl UInt8) × (Int) × Unit => (fun n : Int => [.int .i64 n]) p.1 ++ (fun p : (Sl UInt8) × (Int) × Unit => (fun s : Sl UInt8 => s.f) p.1 ++ (fun p : (Int) × Unit => (fun n : Int => [.int .i64 n]) p.1 ++ (fun _ : Unit => []) p.2) p.2) p.2) p.2) 48 (fun x : (Int) × (Int) × (Sl UInt8) × (Int) × Unit => ((-9223372036854775808 ≤ x.1 ∧ x.1 ≤ 9223372036854775807) ∧ ((-9223372036854775808 ≤ x.2.1 ∧ x.2.1 ≤ 9223372036854775807) ∧ (InB w [] x.2.2.1.a x.2.2.1.c x.2.2.1.l ∧ ((-9223372036854775808 ≤ x.2.2.2.1 ∧ x.2.2.2.1 ≤ 9223372036854775807) ∧ (True)))))) w [] a_l c_l l) (hB : (List.length x) + ((List.map (fun x => (0 + (0 + (List.length x.2.2.1.l + (0 + (0))))) + 1) l).sum) ≤ 1048576) : Calls Try.prog 6 #[.slice a_x (List.length x) c_x, .slice a_l (List.length l) c_l] w fun e w' => e = .returned (.bool true) ∧ Ev w [] w' [] := by
  have hls := i_l.small
  refine d_start [(0, .slice a_x (List.length x) c_x), (1, .slice a_l (List.length l) c_l)] 145 Go.Proofs.Try.func6 Go.Proofs.Try.ntmps6 rfl (by kernel_rfl) (by kernel_rfl) ?_
  intro act0 En0
  have Hv0 : Ev w [] w [] := Ev.refl (Heap.nil _)
  refine wp_seq ?_
  refine region_from ?_  -- region 0
  refine d_pures [(0, .slice a_x (List.length x) c_x), (1, .slice a_l (List.length l) c_l), (4, .bool false)] [.bool false] 1 En0 (by kernel_rfl) (by kernel_rfl) rfl ?_
  intro ac1 En2
  refine from_end (by kernel_rfl) ?_
  refine then_normal ?_
  refine wp_seq ?_
  refine region_from ?_  -- region 1
  refine from_op (by kernel_rfl) ?_
  have hM3 : Heap w [] := Hv0.heap.pick [] (by kernel_rfl) (by decide)
  refine op_call (d := some 18) (f := 8) (args := #[]) En2 (by kernel_rfl) ((head_ok _).mono ?_)
  rintro _ wo5 ⟨rfl, he8⟩
  refine ⟨_, rfl, ?_⟩
  intro ac4 En6
  have Hv7 : Ev w [] wo5 [] := Hv0.trans (Ev.call (R := []) Hv0.heap [] (by kernel_rfl) (by decide) he8)
  clear hM3 he8
  refine d_pures [(0, .slice a_x (List.length x) c_x), (1, .slice a_l (List.length l) c_l), (4, .bool false), (5, .bool true)] [.bool true] 2 En6 (by kernel_rfl) (by kernel_rfl) rfl ?_
  intro ac9 En10
  refine from_end (by kernel_rfl) ?_
  refine then_normal ?_
  refine wp_seq ?_
  refine region_from ?_  -- region 2
  refine from_op (by kernel_rfl) ?_
  refine op_lit (d := some 19) (t := 22) (T := 5) (m := 0) (parts := #[]) (xs := bys []) (sz := 1) En10 (by kernel_rfl) (by kernel_rfl) rfl (by decide) Hv7 ?_
  intro ac12 wo13 bk11 En14 Hv15
  refine d_pures [(0, .slice a_x (List.length x) c_x), (1, .slice a_l (List.length l) c_l), (4, .bool false), (5, .bool true), (19, .slice (some ⟨bk11, 0, none⟩) 0 0), (20, .slice a_x (List.length x) c_x)] [.slice a_x (List.length x) c_x] 2 En14 (by kernel_rfl) (by kernel_rfl) rfl ?_
  intro ac16 En17
  refine from_op (by kernel_rfl) ?_
  have hsm18 := i_x.small
  refine op_append (d := some 21) (t := 22) (tx := 22) (ty := 22) (k := 0) (p := 0) (m := List.length x) (x := .slice a_x (List.length x) c_x) (bytes := 1) En17 (by kernel_rfl) Hv15 rfl rfl (Reads.src (size := 1) (tx := 22) (e' := 5) (by kernel_rfl) (i_x.ev Hv15).reads (bys_len _) i_x.nz (bys_one _)) (by kernel_rfl) (z := .int .u8 0) (by kernel_rfl) rfl (by decide) (by omega) (by unfold maxLen; omega) ?_
  intro ac23 wo24 ao19 cp20 En25 Hv26 _ _
  rw [bys_nil_append] at Hv26
  have ehz21 : 0 + (List.length x) = List.length x := (by first | (simp; done) | (simp; omega) | omega)
  rw [ehz21] at En25
  refine d_pures [(0, .slice a_x (List.length x) c_x), (1, .slice a_l (List.length l) c_l), (4, .bool false), (5, .bool true), (6, .slice ao19 (List.length x) cp20)] [.slice ao19 (List.length x) cp20] 4 En25 (by kernel_rfl) (by kernel_rfl) rfl ?_
  intro ac27 En28
  refine from_end (by kernel_rfl) ?_
  refine then_normal ?_
  refine wp_seq ?_
  refine region_from ?_  -- region 3
  refine d_pures [(0, .slice a_x (List.length x) c_x), (1, .slice a_l (List.length l) c_l), (4, .bool false), (5, .bool true), (6, .slice ao19 (List.length x) cp20), (22, .slice ao19 (List.length x) cp20)] [.slice ao19 (List.length x) cp20] 1 En28 (by kernel_rfl) (by kernel_rfl) rfl ?_
  intro ac29 En30
  refine from_op (by kernel_rfl) ?_
  have hM32 : Heap wo24 [] := Hv26.heap.pick [] (by kernel_rfl) (by decide)
  refine op_call (d := some 23) (f := 17) (args := #[.slice ao19 (List.length x) cp20]) En30 (by kernel_rfl) ((new_go _ ao19 (List.length x) cp20 x (by first | rfl | (simp; done) | (simp; omega) | omega) (bys_in Hv26.heap (k := 0) rfl [] (by kernel_rfl) rfl (by first | omega | (simp; done) | (simp; omega)))).mono ?_)
  rintro _ wo34 ⟨bq31, aoq31, coq31, auq31, cuq31, rfl, he37⟩
  refine ⟨_, rfl, ?_⟩
  intro ac33 En35
  have Hv36 : Ev w [] wo34 [.box bq31 [.slice aoq31 (List.length x) coq31, .bool false, .slice none 0 0, .bool false, .slice auq31 (List.length x) cuq31, .slice none 0 0, .slice none 0 0, .bool false, .bool false, .slice none 0 0, .slice none 0 0, .bool false, .bool false] 66, .vec aoq31 coq31 1 (bys x) 5, .vec auq31 cuq31 1 (bys x) 5, .vec ao19 cp20 1 (bys x) 5] := Hv26.trans (Ev.call (R := [.vec ao19 cp20 1 (bys x) 5]) Hv26.heap [0] (by kernel_rfl) (by decide) he37)
  clear hM32 he37
  refine d_pures [(0, .slice a_x (List.length x) c_x), (1, .slice a_l (List.length l) c_l), (4, .bool false), (5, .bool true), (6, .slice ao19 (List.length x) cp20), (7, .pointer (some ⟨bq31, 0, none⟩))] [.pointer (some ⟨bq31, 0, none⟩)] 3 En35 (by kernel_rfl) (by kernel_rfl) rfl ?_
  intro ac38 En39
  refine from_end (by kernel_rfl) ?_
  refine then_normal ?_
  refine wp_seq ?_
  refine region_from ?_  -- region 4
  refine d_pures [(0, .slice a_x (List.length x) c_x), (1, .slice a_l (List.length l) c_l), (4, .bool false), (5, .bool true), (6, .slice ao19 (List.length x) cp20), (7, .pointer (some ⟨bq31, 0, none⟩)), (24, .slice a_x (List.length x) c_x)] [.slice a_x (List.length x) c_x] 1 En39 (by kernel_rfl) (by kernel_rfl) rfl ?_
  intro ac40 En41
  refine from_op (by kernel_rfl) ?_
  have hM43 : Heap wo34 [] := Hv36.heap.pick [] (by kernel_rfl) (by decide)
  refine op_call (d := some 25) (f := 18) (args := #[.slice a_x (List.length x) c_x]) En41 (by kernel_rfl) ((ynew_go _ a_x (List.length x) c_x x (by first | rfl | (simp; done) | (simp; omega) | omega) ((i_x.ev Hv36).pick [] (by kernel_rfl))).mono ?_)
  rintro _ wo45 ⟨bq42, aoq42, coq42, auq42, cuq42, rfl, he48⟩
  refine ⟨_, rfl, ?_⟩
  intro ac44 En46
  have Hv47 : Ev w [] wo45 [.box bq42 [.slice aoq42 (List.length x) coq42, .slice none 0 0, .slice auq42 (List.length x) cuq42, .slice none 0 0, .slice none 0 0, .bool false, .bool false, .slice none 0 0, .slice none 0 0, .bool false, .bool false] 53, .vec aoq42 coq42 1 (bys x) 5, .vec auq42 cuq42 1 (bys x) 5, .box bq31 [.slice aoq31 (List.length x) coq31, .bool false, .slice none 0 0, .bool false, .slice auq31 (List.length x) cuq31, .slice none 0 0, .slice none 0 0, .bool false, .bool false, .slice none 0 0, .slice none 0 0, .bool false, .bool false] 66, .vec aoq31 coq31 1 (bys x) 5, .vec auq31 cuq31 1 (bys x) 5, .vec ao19 cp20 1 (bys x) 5] := Hv36.trans (Ev.call (R := [.box bq31 [.slice aoq31 (List.length x) coq31, .bool false, .slice none 0 0, .bool false, .slice auq31 (List.length x) cuq31, .slice none 0 0, .slice none 0 0, .bool false, .bool false, .slice none 0 0, .slice none 0 0, .bool false, .bool false] 66, .vec aoq31 coq31 1 (bys x) 5, .vec auq31 cuq31 1 (bys x) 5, .vec ao19 cp20 1 (bys x) 5]) Hv36.heap [0, 1, 2, 3] (by kernel_rfl) (by decide) he48)
  clear hM43 he48
  refine d_pures [(0, .slice a_x (List.length x) c_x), (1, .slice a_l (List.length l) c_l), (4, .bool false), (5, .bool true), (6, .slice ao19 (List.length x) cp20), (7, .pointer (some ⟨bq31, 0, none⟩)), (8, .pointer (some ⟨bq42, 0, none⟩))] [.pointer (some ⟨bq42, 0, none⟩)] 3 En46 (by kernel_rfl) (by kernel_rfl) rfl ?_
  intro ac49 En50
  refine from_end (by kernel_rfl) ?_
  refine then_normal ?_
  refine wp_seq ?_
  refine wp_seq ?_
  refine region_from ?_  -- region 5
  refine d_pures [(0, .slice a_x (List.length x) c_x), (1, .slice a_l (List.length l) c_l), (4, .bool false), (5, .bool true), (6, .slice ao19 (List.length x) cp20), (7, .pointer (some ⟨bq31, 0, none⟩)), (8, .pointer (some ⟨bq42, 0, none⟩)), (9, .int .i64 0)] [.int .i64 0] 1 En50 (by kernel_rfl) (by kernel_rfl) rfl ?_
  intro ac51 En52
  refine from_end (by kernel_rfl) ?_
  refine then_normal ?_
  refine wp_block ?_
  have hvc58 := bys_max Hv47.heap (k := 6) rfl
  refine loop_m (fun ms59 ac wo => ∃ (k55 : Nat) (lo53 : List UInt8), ms59 = (List.length x - k55 : Nat) ∧ Env ac 145 [(0, .slice a_x (List.length x) c_x), (1, .slice a_l (List.length l) c_l), (4, .bool false), (5, .bool true), (6, .slice ao19 (List.length x) cp20), (7, .pointer (some ⟨bq31, 0, none⟩)), (8, .pointer (some ⟨bq42, 0, none⟩)), (9, .int .i64 ((k55 : Nat) : Int))] ∧ Ev w [] wo [.vec ao19 cp20 1 (bys lo53) 5, .box bq42 [.slice aoq42 (List.length x) coq42, .slice none 0 0, .slice auq42 (List.length x) cuq42, .slice none 0 0, .slice none 0 0, .bool false, .bool false, .slice none 0 0, .slice none 0 0, .bool false, .bool false] 53, .vec aoq42 coq42 1 (bys x) 5, .vec auq42 cuq42 1 (bys x) 5, .box bq31 [.slice aoq31 (List.length x) coq31, .bool false, .slice none 0 0, .bool false, .slice auq31 (List.length x) cuq31, .slice none 0 0, .slice none 0 0, .bool false, .bool false, .slice none 0 0, .slice none 0 0, .bool false, .bool false] 66, .vec aoq31 coq31 1 (bys x) 5, .vec auq31 cuq31 1 (bys x) 5] ∧ (List.length lo53 = List.length x) ∧ (k55 ≤ List.length x)) ⟨_, 0, x, rfl, En52.sub (by kernel_rfl), Hv47.pick [6, 0, 1, 2, 3, 4, 5] (by kernel_rfl) (by decide), rfl, by omega⟩ ?_
  rintro mm65 ac61 wo62 ⟨k55, lo53, rfl, En63, Hv64, hl56, hk57⟩
  refine wp_seq ?_
  refine wp_seq ?_
  refine region_from ?_  -- region 6
  refine d_pures [(0, .slice a_x (List.length x) c_x), (1, .slice a_l (List.length l) c_l), (4, .bool false), (5, .bool true), (6, .slice ao19 (List.length x) cp20), (7, .pointer (some ⟨bq31, 0, none⟩)), (8, .pointer (some ⟨bq42, 0, none⟩)), (9, .int .i64 ((k55 : Nat) : Int)), (29, .bool (decide (((k55 : Nat) : Int) < ((List.length x : Nat) : Int))))] [.int .i64 ((k55 : Nat) : Int), .slice ao19 (List.length x) cp20, .int .i64 ((List.length x : Nat) : Int), .bool (decide (((k55 : Nat) : Int) < ((List.length x : Nat) : Int)))] 4 En63 (by kernel_rfl) (by kernel_rfl) rfl ?_
  intro ac66 En67
  refine from_end (by kernel_rfl) ?_
  refine then_normal ?_
  refine cond_at En67 (t := decide (((k55 : Nat) : Int) < ((List.length x : Nat) : Int))) (by kernel_rfl) (fun hc68 => ?_) (fun hc68 => ?_)
  ·
    replace hc68 : ((k55 : Nat) : Int) < ((List.length x : Nat) : Int) := of_decide_eq_true hc68
    refine wp_skip ?_
    refine then_normal ?_
    refine wp_seq ?_
    refine wp_block ?_
    refine region_from ?_  -- region 8
    refine d_pures [(0, .slice a_x (List.length x) c_x), (1, .slice a_l (List.length l) c_l), (4, .bool false), (5, .bool true), (6, .slice ao19 (List.length x) cp20), (7, .pointer (some ⟨bq31, 0, none⟩)), (8, .pointer (some ⟨bq42, 0, none⟩)), (9, .int .i64 ((k55 : Nat) : Int)), (32, .slice ao19 (List.length x) cp20), (33, .int .i64 ((k55 : Nat) : Int))] [.slice ao19 (List.length x) cp20, .int .i64 ((k55 : Nat) : Int)] 2 En67 (by kernel_rfl) (by kernel_rfl) rfl ?_
    intro ac69 En70
    refine from_op (by kernel_rfl) ?_
    refine op_index (d := some 34) (t := 22) (e := 5) (sz := 1) (len := List.length x) (cap := cp20) (j := k55) (ao := ao19) (k := .i64) (ix := ((k55 : Nat) : Int)) En70 (by kernel_rfl) (fun e => by have h := (bys_vnz Hv64.heap (k := 0) rfl) e; first | omega | (simp at h; omega)) (by kernel_rfl) (by kernel_rfl) (by omega) (by omega) (jo := k55) (Nat.mul_one _) ?_
    intro ac73 adr71 had72 En74
    refine from_op (by kernel_rfl) ?_
    have hb75 : k55 < List.length lo53 := by omega
    refine op_loadel (d := some 35) (t := 5) (ad := adr71) (ao := ao19) (xs := bys lo53) (j := k55) (v := .int .u8 ((UInt8.toNat ((lo53)[k55]'hb75) : Nat) : Int)) En74 (by kernel_rfl) (Hv64.heap.reads (k := 0) rfl) had72 (bys_get hb75) (by kernel_rfl) ?_
    intro ac76 En77
    refine d_pures [(0, .slice a_x (List.length x) c_x), (1, .slice a_l (List.length l) c_l), (4, .bool false), (5, .bool true), (6, .slice ao19 (List.length x) cp20), (7, .pointer (some ⟨bq31, 0, none⟩)), (8, .pointer (some ⟨bq42, 0, none⟩)), (9, .int .i64 ((k55 : Nat) : Int)), (32, .slice ao19 (List.length x) cp20), (33, .int .i64 ((k55 : Nat) : Int)), (36, .int .u8 (IntKind.wrap .u8 (((UInt8.toNat ((lo53)[k55]'hb75) : Nat) : Int) + (1 : Int))))] [.int .u8 (IntKind.wrap .u8 (((UInt8.toNat ((lo53)[k55]'hb75) : Nat) : Int) + (1 : Int)))] 5 En77 (by kernel_rfl) (by kernel_rfl) rfl ?_
    intro ac78 En79
    rw [Go.Dbr.u8_add (a := ((UInt8.toNat ((lo53)[k55]'hb75) : Nat) : Int)) (b := (1 : Int)) (x := (lo53)[k55]'hb75) (y := (1 : UInt8)) rfl rfl] at En79
    refine from_op (by kernel_rfl) ?_
    refine op_index (d := some 37) (t := 22) (e := 5) (sz := 1) (len := List.length x) (cap := cp20) (j := k55) (ao := ao19) (k := .i64) (ix := ((k55 : Nat) : Int)) En79 (by kernel_rfl) (fun e => by have h := (bys_vnz Hv64.heap (k := 0) rfl) e; first | omega | (simp at h; omega)) (by kernel_rfl) (by kernel_rfl) (by omega) (by omega) (jo := k55) (Nat.mul_one _) ?_
    intro ac82 adr80 had81 En83
    refine from_op (by kernel_rfl) ?_
    refine op_storeel (d := none) (t := 5) (ad := adr80) (ao := ao19) (k := 0) (cap := cp20) (sz := 1) (j := k55) (xs := bys lo53) (v := bv (((lo53)[k55]'hb75) + (1 : UInt8))) En83 (by kernel_rfl) Hv64 rfl had81 (by rw [bys_length]; omega) (by kernel_rfl) rfl ?_
    intro ac84 wo85  En86 Hv87
    rw [bys_set] at Hv87
    refine from_end (by kernel_rfl) ?_
    refine block_normal ?_
    refine then_normal ?_
    refine region_from ?_  -- region 7
    refine d_pures [(0, .slice a_x (List.length x) c_x), (1, .slice a_l (List.length l) c_l), (4, .bool false), (5, .bool true), (6, .slice ao19 (List.length x) cp20), (7, .pointer (some ⟨bq31, 0, none⟩)), (8, .pointer (some ⟨bq42, 0, none⟩)), (9, .int .i64 ((k55 : Nat) : Int)), (31, .int .i64 (IntKind.wrap .i64 (((k55 : Nat) : Int) + (1 : Int))))] [.int .i64 ((k55 : Nat) : Int), .int .i64 (IntKind.wrap .i64 (((k55 : Nat) : Int) + (1 : Int)))] 2 En86 (by kernel_rfl) (by kernel_rfl) rfl ?_
    intro ac88 En89
    rw [Go.Dbr.wr64 (e := ((k55 : Nat) : Int) + (1 : Int)) (x := ((k55 + 1 : Nat) : Int)) (by omega) (by omega) (by omega)] at En89
    refine d_pures [(0, .slice a_x (List.length x) c_x), (1, .slice a_l (List.length l) c_l), (4, .bool false), (5, .bool true), (6, .slice ao19 (List.length x) cp20), (7, .pointer (some ⟨bq31, 0, none⟩)), (8, .pointer (some ⟨bq42, 0, none⟩)), (9, .int .i64 ((k55 + 1 : Nat) : Int))] [.int .i64 ((k55 + 1 : Nat) : Int)] 3 En89 (by kernel_rfl) (by kernel_rfl) rfl ?_
    intro ac90 En91
    refine from_end (by kernel_rfl) ?_
    refine then_normal ?_
    refine ⟨_, ⟨k55 + 1, List.set lo53 k55 (((lo53)[k55]'hb75) + (1 : UInt8)), rfl, En91.sub (by kernel_rfl), Hv87.pick [0, 1, 2, 3, 4, 5, 6] (by kernel_rfl) (by decide), by simp [hl56], by first | omega | (simp; omega)⟩, ?_⟩
    first | omega | (simp; omega)
  ·
    replace hc68 : ¬ (((k55 : Nat) : Int) < ((List.length x : Nat) : Int)) := of_decide_eq_false hc68
    refine wp_exit ?_
    refine then_exit ?_
    refine then_exit ?_
    refine block_exit ?_
    refine then_normal ?_
    refine wp_seq ?_
    refine wp_seq ?_
    refine region_from ?_  -- region 9
    refine d_pures [(0, .slice a_x (List.length x) c_x), (1, .slice a_l (List.length l) c_l), (4, .bool false), (6, .slice ao19 (List.length x) cp20), (7, .pointer (some ⟨bq31, 0, none⟩)), (8, .pointer (some ⟨bq42, 0, none⟩)), (9, .int .i64 ((k55 : Nat) : Int)), (43, .bool false)] [.bool true, .bool false, .bool false, .pointer (some ⟨bq31, 0, none⟩), .bool false, .bool false] 6 En67 (by kernel_rfl) (by kernel_rfl) rfl ?_
    intro ac92 En93
    refine from_end (by kernel_rfl) ?_
    refine then_normal ?_
    refine cond_false En93 (t := false) (by kernel_rfl) rfl ?_
    refine wp_skip ?_
    refine then_normal ?_
    refine wp_seq ?_
    refine wp_seq ?_
    refine region_from ?_  -- region 11
    refine d_pures [(0, .slice a_x (List.length x) c_x), (1, .slice a_l (List.length l) c_l), (4, .bool false), (6, .slice ao19 (List.length x) cp20), (7, .pointer (some ⟨bq31, 0, none⟩)), (8, .pointer (some ⟨bq42, 0, none⟩)), (9, .int .i64 ((k55 : Nat) : Int)), (10, .int .i64 0)] [.int .i64 0] 1 En93 (by kernel_rfl) (by kernel_rfl) rfl ?_
    intro ac94 En95
    refine from_end (by kernel_rfl) ?_
    refine then_normal ?_
    refine wp_block ?_
    have Hv96 := Ev.nil (sz := 1) (T := 5) Hv64
    have Hv97 := Ev.nil (sz := 1) (T := 5) Hv96
    have Hv98 := Ev.nil (sz := 1) (T := 5) Hv97
    have Hv99 := Ev.nil (sz := 1) (T := 5) Hv98
    have Hv100 := Ev.nil (sz := 1) (T := 5) Hv99
    have Hv101 := Ev.nil (sz := 1) (T := 5) Hv100
    have Hv102 := Ev.nil (sz := 1) (T := 5) Hv101
    have Hv103 := Ev.nil (sz := 1) (T := 5) Hv102
    have Hv104 := Ev.nil (sz := 1) (T := 5) Hv103
    have Hv105 := Ev.nil (sz := 1) (T := 5) Hv104
    refine loop_m (fun ms106 ac wo => ∃ (j : Nat) (aux : Option Addr) (adx : Option Addr) (ahx : Option Addr) (apx : Option Addr) (aqx : Option Addr) (arx : Option Addr) (avx : Option Addr) (cux : Nat) (cdx : Nat) (chx : Nat) (cpx : Nat) (cqx : Nat) (crx : Nat) (cvx : Nat) (auy : Option Addr) (ady : Option Addr) (ahy : Option Addr) (apy : Option Addr) (aqy : Option Addr) (ary : Option Addr) (avy : Option Addr) (cuy : Nat) (cdy : Nat) (chy : Nat) (cpy : Nat) (cqy : Nat) (cry : Nat) (cvy : Nat) (lu : List UInt8) (ld : List UInt8) (lh : List UInt8) (lp : List UInt8) (lq : List UInt8) (lr : List UInt8) (lv : List UInt8) (fc : Bool) (fe : Bool) (bc : Bool) (be : Bool), ms106 = (List.length l - j : Nat) ∧ Env ac 145 [(0, .slice a_x (List.length x) c_x), (1, .slice a_l (List.length l) c_l), (6, .slice ao19 (List.length x) cp20), (7, .pointer (some ⟨bq31, 0, none⟩)), (8, .pointer (some ⟨bq42, 0, none⟩)), (9, .int .i64 ((k55 : Nat) : Int)), (10, .int .i64 ((j : Nat) : Int))] ∧ Ev w [] wo [.box bq31 [.slice aux (List.length lu) cux, .bool fc, .slice adx (List.length ld) cdx, .bool bc, .slice ahx (List.length lh) chx, .slice apx (List.length lp) cpx, .slice aqx (List.length lq) cqx, .bool fc, .bool fe, .slice arx (List.length lr) crx, .slice avx (List.length lv) cvx, .bool bc, .bool be] 66, .vec aux cux 1 (bys lu) 5, .vec adx cdx 1 (bys ld) 5, .vec ahx chx 1 (bys lh) 5, .vec apx cpx 1 (bys lp) 5, .vec aqx cqx 1 (bys lq) 5, .vec arx crx 1 (bys lr) 5, .vec avx cvx 1 (bys lv) 5, .box bq42 [.slice auy (List.length lu) cuy, .slice ady (List.length ld) cdy, .slice ahy (List.length lh) chy, .slice apy (List.length lp) cpy, .slice aqy (List.length lq) cqy, .bool fc, .bool fe, .slice ary (List.length lr) cry, .slice avy (List.length lv) cvy, .bool bc, .bool be] 53, .vec auy cuy 1 (bys lu) 5, .vec ady cdy 1 (bys ld) 5, .vec ahy chy 1 (bys lh) 5, .vec apy cpy 1 (bys lp) 5, .vec aqy cqy 1 (bys lq) 5, .vec ary cry 1 (bys lr) 5, .vec avy cvy 1 (bys lv) 5] ∧ (j ≤ List.length l) ∧ (Rel.ok (⟨lu, ld, lh, lp, lq, fc, fe, lr, lv, bc, be⟩ : Rel)) ∧ (Rel.size (⟨lu, ld, lh, lp, lq, fc, fe, lr, lv, bc, be⟩ : Rel) ≤ List.length x + (List.map (fun x : (Int) × (Int) × (Sl UInt8) × (Int) × Unit => (0 + (0 + (List.length x.2.2.1.l + (0 + (0))))) + 1) (List.take j l)).sum)) ⟨_, 0, aoq31, none, auq31, none, none, none, none, coq31, 0, cuq31, 0, 0, 0, 0, aoq42, none, auq42, none, none, none, none, coq42, 0, cuq42, 0, 0, 0, 0, x, [], x, [], [], [], [], false, false, false, false, rfl, En95.sub (by kernel_rfl), Hv105.pick [4, 5, 7, 6, 8, 9, 10, 11, 1, 2, 12, 3, 13, 14, 15, 16] (by kernel_rfl) (by decide), by omega, Rel.ok_new _, by simp [Rel.size]⟩ ?_
    rintro mm112 ac108 wo109 ⟨j, aux, adx, ahx, apx, aqx, arx, avx, cux, cdx, chx, cpx, cqx, crx, cvx, auy, ady, ahy, apy, aqy, ary, avy, cuy, cdy, chy, cpy, cqy, cry, cvy, lu, ld, lh, lp, lq, lr, lv, fc, fe, bc, be, rfl, En110, Hv111, hj, hok, hsz⟩
    refine wp_seq ?_
    refine wp_seq ?_
    refine region_from ?_  -- region 12
    refine d_pures [(0, .slice a_x (List.length x) c_x), (1, .slice a_l (List.length l) c_l), (6, .slice ao19 (List.length x) cp20), (7, .pointer (some ⟨bq31, 0, none⟩)), (8, .pointer (some ⟨bq42, 0, none⟩)), (9, .int .i64 ((k55 : Nat) : Int)), (10, .int .i64 ((j : Nat) : Int)), (47, .bool (decide (((j : Nat) : Int) < ((List.length l : Nat) : Int))))] [.int .i64 ((j : Nat) : Int), .slice a_l (List.length l) c_l, .int .i64 ((List.length l : Nat) : Int), .bool (decide (((j : Nat) : Int) < ((List.length l : Nat) : Int)))] 4 En110 (by kernel_rfl) (by kernel_rfl) rfl ?_
    intro ac113 En114
    refine from_end (by kernel_rfl) ?_
    refine then_normal ?_
    refine cond_at En114 (t := decide (((j : Nat) : Int) < ((List.length l : Nat) : Int))) (by kernel_rfl) (fun hc115 => ?_) (fun hc115 => ?_)
    ·
      replace hc115 : ((j : Nat) : Int) < ((List.length l : Nat) : Int) := of_decide_eq_true hc115
      refine wp_skip ?_
      refine then_normal ?_
      refine wp_seq ?_
      refine wp_block ?_
      refine wp_seq ?_
      refine region_from ?_  -- region 14
      refine d_pures [(0, .slice a_x (List.length x) c_x), (1, .slice a_l (List.length l) c_l), (6, .slice ao19 (List.length x) cp20), (7, .pointer (some ⟨bq31, 0, none⟩)), (8, .pointer (some ⟨bq42, 0, none⟩)), (9, .int .i64 ((k55 : Nat) : Int)), (10, .int .i64 ((j : Nat) : Int)), (50, .slice a_l (List.length l) c_l), (51, .int .i64 ((j : Nat) : Int))] [.slice a_l (List.length l) c_l, .int .i64 ((j : Nat) : Int)] 2 En114 (by kernel_rfl) (by kernel_rfl) rfl ?_
      intro ac116 En117
      refine from_op (by kernel_rfl) ?_
      refine op_index (d := some 52) (t := 39) (e := 46) (sz := 4) (len := List.length l) (cap := c_l) (j := j) (ao := a_l) (k := .i64) (ix := ((j : Nat) : Int)) En117 (by kernel_rfl) i_l.nz (by kernel_rfl) (by kernel_rfl) (by omega) (by omega) (jo := j * 4) rfl ?_
      intro ac120 adr118 had119 En121
      have hb122 : j < List.length l := by omega
      obtain ⟨⟨x124a, x124b, ⟨a_x124c, c_x124c, x124c⟩, x124d, _⟩, hx123⟩ : ∃ x, (l)[j]? = some x := ⟨_, List.getElem?_eq_getElem hb122⟩
      obtain ⟨b_x124a, b_x124b, i_x124c, b_x124d, _⟩ := i_l.each _ (List.mem_of_getElem? hx123)
      replace b_x124a : (-9223372036854775808 ≤ x124a ∧ x124a ≤ 9223372036854775807) := b_x124a
      replace b_x124b : (-9223372036854775808 ≤ x124b ∧ x124b ≤ 9223372036854775807) := b_x124b
      replace i_x124c : InB w [] a_x124c c_x124c x124c := i_x124c
      replace b_x124d : (-9223372036854775808 ≤ x124d ∧ x124d ≤ 9223372036854775807) := b_x124d
      refine from_op (by kernel_rfl) ?_
      refine op_loadaggat (d := some 53) (t := 46) (ad := adr118) (ao := a_l) (ys := List.flatMap (fun p : (Int) × (Int) × (Sl UInt8) × (Int) × Unit => (fun n : Int => [.int .i64 n]) p.1 ++ (fun p : (Int) × (Sl UInt8) × (Int) × Unit => (fun n : Int => [.int .i64 n]) p.1 ++ (fun p : (Sl UInt8) × (Int) × Unit => (fun s : Sl UInt8 => s.f) p.1 ++ (fun p : (Int) × Unit => (fun n : Int => [.int .i64 n]) p.1 ++ (fun _ : Unit => []) p.2) p.2) p.2) p.2) l) (o := j * 4) (m := 4) (xs := [.int .i64 x124a, .int .i64 x124b, .slice a_x124c (List.length x124c) c_x124c, .int .i64 x124d]) En121 (by kernel_rfl) rfl (i_l.ro.ev Hv111).reads had119 (fun j hj => ?_) rfl (by kernel_rfl) (by kernel_rfl) ?_
      · exact flat_sub (sz := 4) (off := 0) (m := 4) (fun _ _ => rfl) hx123 (by decide) rfl j hj
      intro ac125 En126
      refine from_op (by kernel_rfl) ?_
      refine op_alloc (d := some 11) (T := 46) (x := .tuple #[]) (z := .agg #[.int .i64 0, .int .i64 0, .slice none 0 0, .int .i64 0]) (cs := [.int .i64 0, .int .i64 0, .slice none 0 0, .int .i64 0]) En126 (by kernel_rfl) (by kernel_rfl) (by kernel_rfl) Hv111 ?_
      intro ac128 wo129 bk127 En130 Hv131
      refine from_op (by kernel_rfl) ?_
      refine op_storeaggbox (d := none) (t := 46) (b := bk127) (off := 0) (k := 16) (m := 4) (xs := [.int .i64 x124a, .int .i64 x124b, .slice a_x124c (List.length x124c) c_x124c, .int .i64 x124d]) (v := .agg #[.int .i64 x124a, .int .i64 x124b, .slice a_x124c (List.length x124c) c_x124c, .int .i64 x124d]) (cs' := [.int .i64 x124a, .int .i64 x124b, .slice a_x124c (List.length x124c) c_x124c, .int .i64 x124d]) En130 (by kernel_rfl) Hv131 rfl rfl rfl (by simp) (by kernel_rfl) (one_all (by kernel_rfl)) rfl (L' := [.box bq31 [.slice aux (List.length lu) cux, .bool fc, .slice adx (List.length ld) cdx, .bool bc, .slice ahx (List.length lh) chx, .slice apx (List.length lp) cpx, .slice aqx (List.length lq) cqx, .bool fc, .bool fe, .slice arx (List.length lr) crx, .slice avx (List.length lv) cvx, .bool bc, .bool be] 66, .vec aux cux 1 (bys lu) 5, .vec adx cdx 1 (bys ld) 5, .vec ahx chx 1 (bys lh) 5, .vec apx cpx 1 (bys lp) 5, .vec aqx cqx 1 (bys lq) 5, .vec arx crx 1 (bys lr) 5, .vec avx cvx 1 (bys lv) 5, .box bq42 [.slice auy (List.length lu) cuy, .slice ady (List.length ld) cdy, .slice ahy (List.length lh) chy, .slice apy (List.length lp) cpy, .slice aqy (List.length lq) cqy, .bool fc, .bool fe, .slice ary (List.length lr) cry, .slice avy (List.length lv) cvy, .bool bc, .bool be] 53, .vec auy cuy 1 (bys lu) 5, .vec ady cdy 1 (bys ld) 5, .vec ahy chy 1 (bys lh) 5, .vec apy cpy 1 (bys lp) 5, .vec aqy cqy 1 (bys lq) 5, .vec ary cry 1 (bys lr) 5, .vec avy cvy 1 (bys lv) 5, .box bk127 [.int .i64 x124a, .int .i64 x124b, .slice a_x124c (List.length x124c) c_x124c, .int .i64 x124d] 46]) rfl ?_
      intro ac132 wo133  En134 Hv135
      refine from_end (by kernel_rfl) ?_
      refine then_normal ?_
      refine wp_seq ?_
      refine region_from ?_  -- region 15
      refine from_op (by kernel_rfl) ?_
      refine op_lit (d := some 54) (t := 22) (T := 5) (m := 0) (parts := #[]) (xs := bys []) (sz := 1) En134 (by kernel_rfl) (by kernel_rfl) rfl (by decide) Hv135 ?_
      intro ac137 wo138 bk136 En139 Hv140
      refine d_pures [(0, .slice a_x (List.length x) c_x), (1, .slice a_l (List.length l) c_l), (6, .slice ao19 (List.length x) cp20), (7, .pointer (some ⟨bq31, 0, none⟩)), (8, .pointer (some ⟨bq42, 0, none⟩)), (9, .int .i64 ((k55 : Nat) : Int)), (10, .int .i64 ((j : Nat) : Int)), (11, .pointer (some ⟨bk127, 0, none⟩)), (54, .slice (some ⟨bk136, 0, none⟩) 0 0), (55, .pointer (some ⟨bk127, 2, none⟩))] [.pointer (some ⟨bk127, 2, none⟩)] 2 En139 (by kernel_rfl) (by kernel_rfl) rfl ?_
      intro ac141 En142
      refine from_op (by kernel_rfl) ?_
      refine op_loadbox (d := some 56) (t := 22) (b := bk127) (off := 2) (k := 16) (v := .slice a_x124c (List.length x124c) c_x124c) En142 (by kernel_rfl) Hv140 rfl rfl (by kernel_rfl) ?_
      intro ac143 En144
      refine from_op (by kernel_rfl) ?_
      have hsm145 := i_x124c.small
      refine op_append (d := some 57) (t := 22) (tx := 22) (ty := 22) (k := 17) (p := 0) (m := List.length x124c) (x := .slice a_x124c (List.length x124c) c_x124c) (bytes := 1) En144 (by kernel_rfl) Hv140 rfl rfl (Reads.src (size := 1) (tx := 22) (e' := 5) (by kernel_rfl) (i_x124c.ev Hv140).reads (bys_len _) i_x124c.nz (bys_one _)) (by kernel_rfl) (z := .int .u8 0) (by kernel_rfl) rfl (by decide) (by omega) (by unfold maxLen; omega) ?_
      intro ac150 wo151 ao146 cp147 En152 Hv153 _ _
      rw [bys_nil_append] at Hv153
      have ehz148 : 0 + (List.length x124c) = List.length x124c := (by first | (simp; done) | (simp; omega) | omega)
      rw [ehz148] at En152
      refine d_pures [(0, .slice a_x (List.length x) c_x), (1, .slice a_l (List.length l) c_l), (6, .slice ao19 (List.length x) cp20), (7, .pointer (some ⟨bq31, 0, none⟩)), (8, .pointer (some ⟨bq42, 0, none⟩)), (9, .int .i64 ((k55 : Nat) : Int)), (10, .int .i64 ((j : Nat) : Int)), (11, .pointer (some ⟨bk127, 0, none⟩)), (12, .slice ao146 (List.length x124c) cp147)] [.slice ao146 (List.length x124c) cp147] 5 En152 (by kernel_rfl) (by kernel_rfl) rfl ?_
      intro ac154 En155
      refine from_end (by kernel_rfl) ?_
      refine then_normal ?_
      refine wp_seq ?_
      refine wp_seq ?_
      refine region_from ?_  -- region 16
      refine d_pures [(0, .slice a_x (List.length x) c_x), (1, .slice a_l (List.length l) c_l), (6, .slice ao19 (List.length x) cp20), (7, .pointer (some ⟨bq31, 0, none⟩)), (8, .pointer (some ⟨bq42, 0, none⟩)), (9, .int .i64 ((k55 : Nat) : Int)), (10, .int .i64 ((j : Nat) : Int)), (11, .pointer (some ⟨bk127, 0, none⟩)), (12, .slice ao146 (List.length x124c) cp147), (58, .pointer (some ⟨bk127, 0, none⟩))] [.pointer (some ⟨bk127, 0, none⟩)] 1 En155 (by kernel_rfl) (by kernel_rfl) rfl ?_
      intro ac156 En157
      refine from_op (by kernel_rfl) ?_
      refine op_loadbox (d := some 59) (t := 3) (b := bk127) (off := 0) (k := 16) (v := .int .i64 x124a) En157 (by kernel_rfl) Hv153 rfl rfl (by kernel_rfl) ?_
      intro ac158 En159
      refine d_pures [(0, .slice a_x (List.length x) c_x), (1, .slice a_l (List.length l) c_l), (6, .slice ao19 (List.length x) cp20), (7, .pointer (some ⟨bq31, 0, none⟩)), (8, .pointer (some ⟨bq42, 0, none⟩)), (9, .int .i64 ((k55 : Nat) : Int)), (10, .int .i64 ((j : Nat) : Int)), (11, .pointer (some ⟨bk127, 0, none⟩)), (12, .slice ao146 (List.length x124c) cp147), (60, .int .i64 (IntKind.wrap .i64 ((BitVec.ofInt (IntKind.bits .i64) x124a &&& BitVec.ofInt (IntKind.bits .i64) (3 : Int)).toNat : Int)))] [.int .i64 (IntKind.wrap .i64 ((BitVec.ofInt (IntKind.bits .i64) x124a &&& BitVec.ofInt (IntKind.bits .i64) (3 : Int)).toNat : Int))] 3 En159 (by kernel_rfl) (by kernel_rfl) rfl ?_
      intro ac160 En161
      rw [Go.Dbr.i64_mask x124a 2 3 (mi := 3) rfl (by decide) (by decide)] at En161
      refine from_end (by kernel_rfl) ?_
      refine then_normal ?_
      refine wp_block ?_
      refine wp_seq ?_
      refine wp_seq ?_
      refine region_from ?_  -- region 20
      refine d_pures [(0, .slice a_x (List.length x) c_x), (1, .slice a_l (List.length l) c_l), (6, .slice ao19 (List.length x) cp20), (7, .pointer (some ⟨bq31, 0, none⟩)), (8, .pointer (some ⟨bq42, 0, none⟩)), (9, .int .i64 ((k55 : Nat) : Int)), (10, .int .i64 ((j : Nat) : Int)), (11, .pointer (some ⟨bk127, 0, none⟩)), (12, .slice ao146 (List.length x124c) cp147), (60, .int .i64 (x124a % (2 ^ 2 : Int))), (73, .bool (x124a % (2 ^ 2 : Int) == (0 : Int)))] [.bool (x124a % (2 ^ 2 : Int) == (0 : Int)), .bool (x124a % (2 ^ 2 : Int) == (0 : Int))] 2 En161 (by kernel_rfl) (by kernel_rfl) rfl ?_
      intro ac162 En163
      refine from_end (by kernel_rfl) ?_
      refine then_normal ?_
      refine region_cut (F := fun ac wo => ∃ (tw : Bool), Env ac 145 [(0, .slice a_x (List.length x) c_x), (1, .slice a_l (List.length l) c_l), (6, .slice ao19 (List.length x) cp20), (7, .pointer (some ⟨bq31, 0, none⟩)), (8, .pointer (some ⟨bq42, 0, none⟩)), (9, .int .i64 ((k55 : Nat) : Int)), (10, .int .i64 ((j : Nat) : Int)), (11, .pointer (some ⟨bk127, 0, none⟩)), (12, .slice ao146 (List.length x124c) cp147), (60, .int .i64 (x124a % (2 ^ 2 : Int))), (73, .bool tw)] ∧ Ev w [] wo [.box bq31 [.slice aux (List.length lu) cux, .bool fc, .slice adx (List.length ld) cdx, .bool bc, .slice ahx (List.length lh) chx, .slice apx (List.length lp) cpx, .slice aqx (List.length lq) cqx, .bool fc, .bool fe, .slice arx (List.length lr) crx, .slice avx (List.length lv) cvx, .bool bc, .bool be] 66, .vec aux cux 1 (bys lu) 5, .vec adx cdx 1 (bys ld) 5, .vec ahx chx 1 (bys lh) 5, .vec apx cpx 1 (bys lp) 5, .vec aqx cqx 1 (bys lq) 5, .vec arx crx 1 (bys lr) 5, .vec avx cvx 1 (bys lv) 5, .box bq42 [.slice auy (List.length lu) cuy, .slice ady (List.length ld) cdy, .slice ahy (List.length lh) chy, .slice apy (List.length lp) cpy, .slice aqy (List.length lq) cqy, .bool fc, .bool fe, .slice ary (List.length lr) cry, .slice avy (List.length lv) cvy, .bool bc, .bool be] 53, .vec auy cuy 1 (bys lu) 5, .vec ady cdy 1 (bys ld) 5, .vec ahy chy 1 (bys lh) 5, .vec apy cpy 1 (bys lp) 5, .vec aqy cqy 1 (bys lq) 5, .vec ary cry 1 (bys lr) 5, .vec avy cvy 1 (bys lv) 5, .box bk127 [.int .i64 x124a, .int .i64 x124b, .slice a_x124c (List.length x124c) c_x124c, .int .i64 x124d] 46, .vec ao146 cp147 1 (bys x124c) 5]) ?_ ?_
      ·
        refine cond_at En163 (t := x124a % (2 ^ 2 : Int) == (0 : Int)) (by kernel_rfl) (fun hc164 => ?_) (fun hc164 => ?_)
        ·
          replace hc164 : x124a % (2 ^ 2 : Int) = (0 : Int) := eq_of_beq hc164
          refine wp_skip ?_
          exact ⟨rfl, ⟨x124a % (2 ^ 2 : Int) == (0 : Int), En163.sub (by kernel_rfl), Hv153.pick [0, 1, 2, 3, 4, 5, 6, 7, 8, 9, 10, 11, 12, 13, 14, 15, 16, 17] (by kernel_rfl) (by decide)⟩⟩
        ·
          replace hc164 : ¬ (x124a % (2 ^ 2 : Int) = (0 : Int)) := ne_of_beq_false hc164
          refine region_from ?_  -- region 21
          refine d_pures [(0, .slice a_x (List.length x) c_x), (1, .slice a_l (List.length l) c_l), (6, .slice ao19 (List.length x) cp20), (7, .pointer (some ⟨bq31, 0, none⟩)), (8, .pointer (some ⟨bq42, 0, none⟩)), (9, .int .i64 ((k55 : Nat) : Int)), (10, .int .i64 ((j : Nat) : Int)), (11, .pointer (some ⟨bk127, 0, none⟩)), (12, .slice ao146 (List.length x124c) cp147), (60, .int .i64 (x124a % (2 ^ 2 : Int))), (73, .bool (x124a % (2 ^ 2 : Int) == (1 : Int)))] [.bool (x124a % (2 ^ 2 : Int) == (1 : Int)), .bool (x124a % (2 ^ 2 : Int) == (1 : Int))] 2 En163 (by kernel_rfl) (by kernel_rfl) rfl ?_
          intro ac165 En166
          refine from_end (by kernel_rfl) ?_
          exact ⟨rfl, ⟨x124a % (2 ^ 2 : Int) == (1 : Int), En166.sub (by kernel_rfl), Hv153.pick [0, 1, 2, 3, 4, 5, 6, 7, 8, 9, 10, 11, 12, 13, 14, 15, 16, 17] (by kernel_rfl) (by decide)⟩⟩
      ·
        rintro ac167 wo168 ⟨tw, En169, Hv170⟩
        refine then_normal ?_
        refine region_cut (F := fun ac wo => ∃ (aux2 : Option Addr) (adx2 : Option Addr) (ahx2 : Option Addr) (apx2 : Option Addr) (aqx2 : Option Addr) (arx2 : Option Addr) (avx2 : Option Addr) (cux2 : Nat) (cdx2 : Nat) (chx2 : Nat) (cpx2 : Nat) (cqx2 : Nat) (crx2 : Nat) (cvx2 : Nat) (auy2 : Option Addr) (ady2 : Option Addr) (ahy2 : Option Addr) (apy2 : Option Addr) (aqy2 : Option Addr) (ary2 : Option Addr) (avy2 : Option Addr) (cuy2 : Nat) (cdy2 : Nat) (chy2 : Nat) (cpy2 : Nat) (cqy2 : Nat) (cry2 : Nat) (cvy2 : Nat) (lu2 : List UInt8) (ld2 : List UInt8) (lh2 : List UInt8) (lp2 : List UInt8) (lq2 : List UInt8) (lr2 : List UInt8) (lv2 : List UInt8) (fc2 : Bool) (fe2 : Bool) (bc2 : Bool) (be2 : Bool), Env ac 145 [(0, .slice a_x (List.length x) c_x), (1, .slice a_l (List.length l) c_l), (6, .slice ao19 (List.length x) cp20), (7, .pointer (some ⟨bq31, 0, none⟩)), (8, .pointer (some ⟨bq42, 0, none⟩)), (9, .int .i64 ((k55 : Nat) : Int)), (10, .int .i64 ((j : Nat) : Int)), (11, .pointer (some ⟨bk127, 0, none⟩)), (12, .slice ao146 (List.length x124c) cp147), (60, .int .i64 (x124a % (2 ^ 2 : Int)))] ∧ Ev w [] wo [.box bq31 [.slice aux2 (List.length lu2) cux2, .bool fc2, .slice adx2 (List.length ld2) cdx2, .bool bc2, .slice ahx2 (List.length lh2) chx2, .slice apx2 (List.length lp2) cpx2, .slice aqx2 (List.length lq2) cqx2, .bool fc2, .bool fe2, .slice arx2 (List.length lr2) crx2, .slice avx2 (List.length lv2) cvx2, .bool bc2, .bool be2] 66, .vec aux2 cux2 1 (bys lu2) 5, .vec adx2 cdx2 1 (bys ld2) 5, .vec ahx2 chx2 1 (bys lh2) 5, .vec apx2 cpx2 1 (bys lp2) 5, .vec aqx2 cqx2 1 (bys lq2) 5, .vec arx2 crx2 1 (bys lr2) 5, .vec avx2 cvx2 1 (bys lv2) 5, .box bq42 [.slice auy2 (List.length lu2) cuy2, .slice ady2 (List.length ld2) cdy2, .slice ahy2 (List.length lh2) chy2, .slice apy2 (List.length lp2) cpy2, .slice aqy2 (List.length lq2) cqy2, .bool fc2, .bool fe2, .slice ary2 (List.length lr2) cry2, .slice avy2 (List.length lv2) cvy2, .bool bc2, .bool be2] 53, .vec auy2 cuy2 1 (bys lu2) 5, .vec ady2 cdy2 1 (bys ld2) 5, .vec ahy2 chy2 1 (bys lh2) 5, .vec apy2 cpy2 1 (bys lp2) 5, .vec aqy2 cqy2 1 (bys lq2) 5, .vec ary2 cry2 1 (bys lr2) 5, .vec avy2 cvy2 1 (bys lv2) 5] ∧ (Rel.ok (⟨lu2, ld2, lh2, lp2, lq2, fc2, fe2, lr2, lv2, bc2, be2⟩ : Rel)) ∧ (Rel.size (⟨lu2, ld2, lh2, lp2, lq2, fc2, fe2, lr2, lv2, bc2, be2⟩ : Rel) ≤ List.length x + ((List.map (fun x : (Int) × (Int) × (Sl UInt8) × (Int) × Unit => (0 + (0 + (List.length x.2.2.1.l + (0 + (0))))) + 1) (List.take j l)).sum + (fun x : (Int) × (Int) × (Sl UInt8) × (Int) × Unit => (0 + (0 + (List.length x.2.2.1.l + (0 + (0))))) + 1) (⟨x124a, x124b, ⟨a_x124c, c_x124c, x124c⟩, x124d, ()⟩ : (Int) × (Int) × (Sl UInt8) × (Int) × Unit))) ∧ (List.length lu2 + List.length ld2 + List.length lh2 + List.length lp2 + List.length lq2 + List.length lr2 + List.length lv2 ≤ 3 * 1048576)) ?_ ?_
        ·
          refine cond_at En169 (t := tw) (by kernel_rfl) (fun hc171 => ?_) (fun hc171 => ?_)
          ·
            replace hc171 : tw = true := hc171
            refine wp_seq ?_
            refine region_from ?_  -- region 22
            refine d_pures [(0, .slice a_x (List.length x) c_x), (1, .slice a_l (List.length l) c_l), (6, .slice ao19 (List.length x) cp20), (7, .pointer (some ⟨bq31, 0, none⟩)), (8, .pointer (some ⟨bq42, 0, none⟩)), (9, .int .i64 ((k55 : Nat) : Int)), (10, .int .i64 ((j : Nat) : Int)), (11, .pointer (some ⟨bk127, 0, none⟩)), (12, .slice ao146 (List.length x124c) cp147), (60, .int .i64 (x124a % (2 ^ 2 : Int))), (76, .pointer (some ⟨bq31, 0, none⟩)), (77, .pointer (some ⟨bk127, 1, none⟩))] [.pointer (some ⟨bq31, 0, none⟩), .pointer (some ⟨bk127, 1, none⟩)] 2 En169 (by kernel_rfl) (by kernel_rfl) rfl ?_
            intro ac172 En173
            refine from_op (by kernel_rfl) ?_
            refine op_loadbox (d := some 78) (t := 44) (b := bk127) (off := 1) (k := 16) (v := .int .i64 x124b) En173 (by kernel_rfl) Hv170 rfl rfl (by kernel_rfl) ?_
            intro ac174 En175
            refine d_pures [(0, .slice a_x (List.length x) c_x), (1, .slice a_l (List.length l) c_l), (6, .slice ao19 (List.length x) cp20), (7, .pointer (some ⟨bq31, 0, none⟩)), (8, .pointer (some ⟨bq42, 0, none⟩)), (9, .int .i64 ((k55 : Nat) : Int)), (10, .int .i64 ((j : Nat) : Int)), (11, .pointer (some ⟨bk127, 0, none⟩)), (12, .slice ao146 (List.length x124c) cp147), (60, .int .i64 (x124a % (2 ^ 2 : Int))), (76, .pointer (some ⟨bq31, 0, none⟩)), (78, .int .i64 x124b), (79, .slice ao146 (List.length x124c) cp147)] [.slice ao146 (List.length x124c) cp147] 4 En175 (by kernel_rfl) (by kernel_rfl) rfl ?_
            intro ac176 En177
            refine from_op (by kernel_rfl) ?_
            have hS179 : List.length lu + List.length ld + List.length lh + List.length lp + List.length lq + List.length lr + List.length lv ≤ 3145728 := Rel.sizes hok (Nat.le_trans hsz (Nat.le_trans (Nat.add_le_add_left (sum_take_le _ l j) _) hB))
            have hq180 : List.length x124c ≤ 1048576 := by have h := Nat.le_trans (sum_step (fun x : (Int) × (Int) × (Sl UInt8) × (Int) × Unit => (0 + (0 + (List.length x.2.2.1.l + (0 + (0))))) + 1) hx123) (Nat.le_trans (Nat.le_add_left _ _) hB); simp only at h; omega
            have hM181 : Heap wo168 [.box bq31 [.slice aux (List.length lu) cux, .bool fc, .slice adx (List.length ld) cdx, .bool bc, .slice ahx (List.length lh) chx, .slice apx (List.length lp) cpx, .slice aqx (List.length lq) cqx, .bool fc, .bool fe, .slice arx (List.length lr) crx, .slice avx (List.length lv) cvx, .bool bc, .bool be] 66, .vec aux cux 1 (bys lu) 5, .vec adx cdx 1 (bys ld) 5, .vec ahx chx 1 (bys lh) 5, .vec apx cpx 1 (bys lp) 5, .vec aqx cqx 1 (bys lq) 5, .vec arx crx 1 (bys lr) 5, .vec avx cvx 1 (bys lv) 5] := Hv170.heap.pick [0, 1, 2, 3, 4, 5, 6, 7] (by kernel_rfl) (by decide)
            refine op_call (d := some 80) (f := 19) (args := #[.pointer (some ⟨bq31, 0, none⟩), .int .i64 x124b, .slice ao146 (List.length x124c) cp147]) En177 (by kernel_rfl) ((xwrite _ bq31 aux adx ahx apx aqx arx avx cux cdx chx cpx cqx crx cvx lu ld lh lp lq lr lv fc fe bc be ao146 (List.length x124c) cp147 x124c (by first | rfl | (simp; done) | (simp; omega) | omega) (bys_in Hv170.heap (k := 17) rfl [0, 1, 2, 3, 4, 5, 6, 7] (by kernel_rfl) rfl (by first | omega | (simp; done) | (simp; omega))) x124b hM181 (by omega)).mono ?_)
            rintro _ wo183 ⟨auq178, adq178, ahq178, apq178, aqq178, arq178, avq178, cuq178, cdq178, chq178, cpq178, cqq178, crq178, cvq178, luq178, ldq178, lhq178, lpq178, lqq178, lrq178, lvq178, fcq178, feq178, bcq178, beq178, rfl, he186, f_q178⟩
            refine ⟨_, rfl, ?_⟩
            intro ac182 En184
            have Hv185 : Ev w [] wo183 [.box bq31 [.slice auq178 (List.length luq178) cuq178, .bool fcq178, .slice adq178 (List.length ldq178) cdq178, .bool bcq178, .slice ahq178 (List.length lhq178) chq178, .slice apq178 (List.length lpq178) cpq178, .slice aqq178 (List.length lqq178) cqq178, .bool fcq178, .bool feq178, .slice arq178 (List.length lrq178) crq178, .slice avq178 (List.length lvq178) cvq178, .bool bcq178, .bool beq178] 66, .vec auq178 cuq178 1 (bys luq178) 5, .vec adq178 cdq178 1 (bys ldq178) 5, .vec ahq178 chq178 1 (bys lhq178) 5, .vec apq178 cpq178 1 (bys lpq178) 5, .vec aqq178 cqq178 1 (bys lqq178) 5, .vec arq178 crq178 1 (bys lrq178) 5, .vec avq178 cvq178 1 (bys lvq178) 5, .box bq42 [.slice auy (List.length lu) cuy, .slice ady (List.length ld) cdy, .slice ahy (List.length lh) chy, .slice apy (List.length lp) cpy, .slice aqy (List.length lq) cqy, .bool fc, .bool fe, .slice ary (List.length lr) cry, .slice avy (List.length lv) cvy, .bool bc, .bool be] 53, .vec auy cuy 1 (bys lu) 5, .vec ady cdy 1 (bys ld) 5, .vec ahy chy 1 (bys lh) 5, .vec apy cpy 1 (bys lp) 5, .vec aqy cqy 1 (bys lq) 5, .vec ary cry 1 (bys lr) 5, .vec avy cvy 1 (bys lv) 5, .box bk127 [.int .i64 x124a, .int .i64 x124b, .slice a_x124c (List.length x124c) c_x124c, .int .i64 x124d] 46, .vec ao146 cp147 1 (bys x124c) 5] := Hv170.trans (Ev.call (R := [.box bq42 [.slice auy (List.length lu) cuy, .slice ady (List.length ld) cdy, .slice ahy (List.length lh) chy, .slice apy (List.length lp) cpy, .slice aqy (List.length lq) cqy, .bool fc, .bool fe, .slice ary (List.length lr) cry, .slice avy (List.length lv) cvy, .bool bc, .bool be] 53, .vec auy cuy 1 (bys lu) 5, .vec ady cdy 1 (bys ld) 5, .vec ahy chy 1 (bys lh) 5, .vec apy cpy 1 (bys lp) 5, .vec aqy cqy 1 (bys lq) 5, .vec ary cry 1 (bys lr) 5, .vec avy cvy 1 (bys lv) 5, .box bk127 [.int .i64 x124a, .int .i64 x124b, .slice a_x124c (List.length x124c) c_x124c, .int .i64 x124d] 46, .vec ao146 cp147 1 (bys x124c) 5]) Hv170.heap [0, 1, 2, 3, 4, 5, 6, 7, 8, 9, 10, 11, 12, 13, 14, 15, 16, 17] (by kernel_rfl) (by decide) he186)
            clear hM181 he186
            refine from_end (by kernel_rfl) ?_
            refine then_normal ?_
            refine wp_seq ?_
            refine region_from ?_  -- region 23
            refine d_pures [(0, .slice a_x (List.length x) c_x), (1, .slice a_l (List.length l) c_l), (6, .slice ao19 (List.length x) cp20), (7, .pointer (some ⟨bq31, 0, none⟩)), (8, .pointer (some ⟨bq42, 0, none⟩)), (9, .int .i64 ((k55 : Nat) : Int)), (10, .int .i64 ((j : Nat) : Int)), (11, .pointer (some ⟨bk127, 0, none⟩)), (12, .slice ao146 (List.length x124c) cp147), (60, .int .i64 (x124a % (2 ^ 2 : Int))), (81, .pointer (some ⟨bq42, 0, none⟩)), (82, .pointer (some ⟨bk127, 1, none⟩))] [.pointer (some ⟨bq42, 0, none⟩), .pointer (some ⟨bk127, 1, none⟩)] 2 En184 (by kernel_rfl) (by kernel_rfl) rfl ?_
            intro ac187 En188
            refine from_op (by kernel_rfl) ?_
            refine op_loadbox (d := some 83) (t := 44) (b := bk127) (off := 1) (k := 16) (v := .int .i64 x124b) En188 (by kernel_rfl) Hv185 rfl rfl (by kernel_rfl) ?_
            intro ac189 En190
            refine d_pures [(0, .slice a_x (List.length x) c_x), (1, .slice a_l (List.length l) c_l), (6, .slice ao19 (List.length x) cp20), (7, .pointer (some ⟨bq31, 0, none⟩)), (8, .pointer (some ⟨bq42, 0, none⟩)), (9, .int .i64 ((k55 : Nat) : Int)), (10, .int .i64 ((j : Nat) : Int)), (11, .pointer (some ⟨bk127, 0, none⟩)), (12, .slice ao146 (List.length x124c) cp147), (60, .int .i64 (x124a % (2 ^ 2 : Int))), (81, .pointer (some ⟨bq42, 0, none⟩)), (83, .int .i64 x124b), (84, .pointer (some ⟨bk127, 2, none⟩))] [.pointer (some ⟨bk127, 2, none⟩)] 4 En190 (by kernel_rfl) (by kernel_rfl) rfl ?_
            intro ac191 En192
            refine from_op (by kernel_rfl) ?_
            refine op_loadbox (d := some 85) (t := 22) (b := bk127) (off := 2) (k := 16) (v := .slice a_x124c (List.length x124c) c_x124c) En192 (by kernel_rfl) Hv185 rfl rfl (by kernel_rfl) ?_
            intro ac193 En194
            refine from_op (by kernel_rfl) ?_
            have hS196 : List.length lu + List.length ld + List.length lh + List.length lp + List.length lq + List.length lr + List.length lv ≤ 3145728 := Rel.sizes hok (Nat.le_trans hsz (Nat.le_trans (Nat.add_le_add_left (sum_take_le _ l j) _) hB))
            have hq197 : List.length x124c ≤ 1048576 := by have h := Nat.le_trans (sum_step (fun x : (Int) × (Int) × (Sl UInt8) × (Int) × Unit => (0 + (0 + (List.length x.2.2.1.l + (0 + (0))))) + 1) hx123) (Nat.le_trans (Nat.le_add_left _ _) hB); simp only at h; omega
            have hM198 : Heap wo183 [.box bq42 [.slice auy (List.length lu) cuy, .slice ady (List.length ld) cdy, .slice ahy (List.length lh) chy, .slice apy (List.length lp) cpy, .slice aqy (List.length lq) cqy, .bool fc, .bool fe, .slice ary (List.length lr) cry, .slice avy (List.length lv) cvy, .bool bc, .bool be] 53, .vec auy cuy 1 (bys lu) 5, .vec ady cdy 1 (bys ld) 5, .vec ahy chy 1 (bys lh) 5, .vec apy cpy 1 (bys lp) 5, .vec aqy cqy 1 (bys lq) 5, .vec ary cry 1 (bys lr) 5, .vec avy cvy 1 (bys lv) 5] := Hv185.heap.pick [8, 9, 10, 11, 12, 13, 14, 15] (by kernel_rfl) (by decide)
            refine op_call (d := some 86) (f := 20) (args := #[.pointer (some ⟨bq42, 0, none⟩), .int .i64 x124b, .slice a_x124c (List.length x124c) c_x124c]) En194 (by kernel_rfl) ((ywrite _ bq42 auy ady ahy apy aqy ary avy cuy cdy chy cpy cqy cry cvy lu ld lh lp lq lr lv fc fe bc be a_x124c (List.length x124c) c_x124c x124c (by first | rfl | (simp; done) | (simp; omega) | omega) ((i_x124c.ev Hv185).pick [8, 9, 10, 11, 12, 13, 14, 15] (by kernel_rfl)) x124b hM198 (by omega)).mono ?_)
            rintro _ wo200 ⟨auq195, adq195, ahq195, apq195, aqq195, arq195, avq195, cuq195, cdq195, chq195, cpq195, cqq195, crq195, cvq195, luq195, ldq195, lhq195, lpq195, lqq195, lrq195, lvq195, fcq195, feq195, bcq195, beq195, rfl, he203, f_q195⟩
            refine ⟨_, rfl, ?_⟩
            intro ac199 En201
            have Hv202 : Ev w [] wo200 [.box bq42 [.slice auq195 (List.length luq195) cuq195, .slice adq195 (List.length ldq195) cdq195, .slice ahq195 (List.length lhq195) chq195, .slice apq195 (List.length lpq195) cpq195, .slice aqq195 (List.length lqq195) cqq195, .bool fcq195, .bool feq195, .slice arq195 (List.length lrq195) crq195, .slice avq195 (List.length lvq195) cvq195, .bool bcq195, .bool beq195] 53, .vec auq195 cuq195 1 (bys luq195) 5, .vec adq195 cdq195 1 (bys ldq195) 5, .vec ahq195 chq195 1 (bys lhq195) 5, .vec apq195 cpq195 1 (bys lpq195) 5, .vec aqq195 cqq195 1 (bys lqq195) 5, .vec arq195 crq195 1 (bys lrq195) 5, .vec avq195 cvq195 1 (bys lvq195) 5, .box bq31 [.slice auq178 (List.length luq178) cuq178, .bool fcq178, .slice adq178 (List.length ldq178) cdq178, .bool bcq178, .slice ahq178 (List.length lhq178) chq178, .slice apq178 (List.length lpq178) cpq178, .slice aqq178 (List.length lqq178) cqq178, .bool fcq178, .bool feq178, .slice arq178 (List.length lrq178) crq178, .slice avq178 (List.length lvq178) cvq178, .bool bcq178, .bool beq178] 66, .vec auq178 cuq178 1 (bys luq178) 5, .vec adq178 cdq178 1 (bys ldq178) 5, .vec ahq178 chq178 1 (bys lhq178) 5, .vec apq178 cpq178 1 (bys lpq178) 5, .vec aqq178 cqq178 1 (bys lqq178) 5, .vec arq178 crq178 1 (bys lrq178) 5, .vec avq178 cvq178 1 (bys lvq178) 5, .box bk127 [.int .i64 x124a, .int .i64 x124b, .slice a_x124c (List.length x124c) c_x124c, .int .i64 x124d] 46, .vec ao146 cp147 1 (bys x124c) 5] := Hv185.trans (Ev.call (R := [.box bq31 [.slice auq178 (List.length luq178) cuq178, .bool fcq178, .slice adq178 (List.length ldq178) cdq178, .bool bcq178, .slice ahq178 (List.length lhq178) chq178, .slice apq178 (List.length lpq178) cpq178, .slice aqq178 (List.length lqq178) cqq178, .bool fcq178, .bool feq178, .slice arq178 (List.length lrq178) crq178, .slice avq178 (List.length lvq178) cvq178, .bool bcq178, .bool beq178] 66, .vec auq178 cuq178 1 (bys luq178) 5, .vec adq178 cdq178 1 (bys ldq178) 5, .vec ahq178 chq178 1 (bys lhq178) 5, .vec apq178 cpq178 1 (bys lpq178) 5, .vec aqq178 cqq178 1 (bys lqq178) 5, .vec arq178 crq178 1 (bys lrq178) 5, .vec avq178 cvq178 1 (bys lvq178) 5, .box bk127 [.int .i64 x124a, .int .i64 x124b, .slice a_x124c (List.length x124c) c_x124c, .int .i64 x124d] 46, .vec ao146 cp147 1 (bys x124c) 5]) Hv185.heap [8, 9, 10, 11, 12, 13, 14, 15, 0, 1, 2, 3, 4, 5, 6, 7, 16, 17] (by kernel_rfl) (by decide) he203)
            clear hM198 he203
            refine from_end (by kernel_rfl) ?_
            refine then_normal ?_
            refine wp_seq ?_
            refine region_from ?_  -- region 24
            refine d_pures [(0, .slice a_x (List.length x) c_x), (1, .slice a_l (List.length l) c_l), (6, .slice ao19 (List.length x) cp20), (7, .pointer (some ⟨bq31, 0, none⟩)), (8, .pointer (some ⟨bq42, 0, none⟩)), (9, .int .i64 ((k55 : Nat) : Int)), (10, .int .i64 ((j : Nat) : Int)), (11, .pointer (some ⟨bk127, 0, none⟩)), (12, .slice ao146 (List.length x124c) cp147), (13, .int .i64 0), (60, .int .i64 (x124a % (2 ^ 2 : Int)))] [.int .i64 0] 1 En201 (by kernel_rfl) (by kernel_rfl) rfl ?_
            intro ac204 En205
            refine from_end (by kernel_rfl) ?_
            refine then_normal ?_
            refine wp_block ?_
            have hvc211 := bys_max Hv202.heap (k := 17) rfl
            refine loop_m (fun ms212 ac wo => ∃ (k208 : Nat) (lo206 : List UInt8), ms212 = (List.length x124c - k208 : Nat) ∧ Env ac 145 [(0, .slice a_x (List.length x) c_x), (1, .slice a_l (List.length l) c_l), (6, .slice ao19 (List.length x) cp20), (7, .pointer (some ⟨bq31, 0, none⟩)), (8, .pointer (some ⟨bq42, 0, none⟩)), (9, .int .i64 ((k55 : Nat) : Int)), (10, .int .i64 ((j : Nat) : Int)), (11, .pointer (some ⟨bk127, 0, none⟩)), (12, .slice ao146 (List.length x124c) cp147), (13, .int .i64 ((k208 : Nat) : Int)), (60, .int .i64 (x124a % (2 ^ 2 : Int)))] ∧ Ev w [] wo [.vec ao146 cp147 1 (bys lo206) 5, .box bq42 [.slice auq195 (List.length luq195) cuq195, .slice adq195 (List.length ldq195) cdq195, .slice ahq195 (List.length lhq195) chq195, .slice apq195 (List.length lpq195) cpq195, .slice aqq195 (List.length lqq195) cqq195, .bool fcq195, .bool feq195, .slice arq195 (List.length lrq195) crq195, .slice avq195 (List.length lvq195) cvq195, .bool bcq195, .bool beq195] 53, .vec auq195 cuq195 1 (bys luq195) 5, .vec adq195 cdq195 1 (bys ldq195) 5, .vec ahq195 chq195 1 (bys lhq195) 5, .vec apq195 cpq195 1 (bys lpq195) 5, .vec aqq195 cqq195 1 (bys lqq195) 5, .vec arq195 crq195 1 (bys lrq195) 5, .vec avq195 cvq195 1 (bys lvq195) 5, .box bq31 [.slice auq178 (List.length luq178) cuq178, .bool fcq178, .slice adq178 (List.length ldq178) cdq178, .bool bcq178, .slice ahq178 (List.length lhq178) chq178, .slice apq178 (List.length lpq178) cpq178, .slice aqq178 (List.length lqq178) cqq178, .bool fcq178, .bool feq178, .slice arq178 (List.length lrq178) crq178, .slice avq178 (List.length lvq178) cvq178, .bool bcq178, .bool beq178] 66, .vec auq178 cuq178 1 (bys luq178) 5, .vec adq178 cdq178 1 (bys ldq178) 5, .vec ahq178 chq178 1 (bys lhq178) 5, .vec apq178 cpq178 1 (bys lpq178) 5, .vec aqq178 cqq178 1 (bys lqq178) 5, .vec arq178 crq178 1 (bys lrq178) 5, .vec avq178 cvq178 1 (bys lvq178) 5, .box bk127 [.int .i64 x124a, .int .i64 x124b, .slice a_x124c (List.length x124c) c_x124c, .int .i64 x124d] 46] ∧ (List.length lo206 = List.length x124c) ∧ (k208 ≤ List.length x124c)) ⟨_, 0, x124c, rfl, En205.sub (by kernel_rfl), Hv202.pick [17, 0, 1, 2, 3, 4, 5, 6, 7, 8, 9, 10, 11, 12, 13, 14, 15, 16] (by kernel_rfl) (by decide), rfl, by omega⟩ ?_
            rintro mm218 ac214 wo215 ⟨k208, lo206, rfl, En216, Hv217, hl209, hk210⟩
            refine wp_seq ?_
            refine wp_seq ?_
            refine region_from ?_  -- region 25
            refine d_pures [(0, .slice a_x (List.length x) c_x), (1, .slice a_l (List.length l) c_l), (6, .slice ao19 (List.length x) cp20), (7, .pointer (some ⟨bq31, 0, none⟩)), (8, .pointer (some ⟨bq42, 0, none⟩)), (9, .int .i64 ((k55 : Nat) : Int)), (10, .int .i64 ((j : Nat) : Int)), (11, .pointer (some ⟨bk127, 0, none⟩)), (12, .slice ao146 (List.length x124c) cp147), (13, .int .i64 ((k208 : Nat) : Int)), (60, .int .i64 (x124a % (2 ^ 2 : Int))), (90, .bool (decide (((k208 : Nat) : Int) < ((List.length x124c : Nat) : Int))))] [.int .i64 ((k208 : Nat) : Int), .slice ao146 (List.length x124c) cp147, .int .i64 ((List.length x124c : Nat) : Int), .bool (decide (((k208 : Nat) : Int) < ((List.length x124c : Nat) : Int)))] 4 En216 (by kernel_rfl) (by kernel_rfl) rfl ?_
            intro ac219 En220
            refine from_end (by kernel_rfl) ?_
            refine then_normal ?_
            refine cond_at En220 (t := decide (((k208 : Nat) : Int) < ((List.length x124c : Nat) : Int))) (by kernel_rfl) (fun hc221 => ?_) (fun hc221 => ?_)
            ·
              replace hc221 : ((k208 : Nat) : Int) < ((List.length x124c : Nat) : Int) := of_decide_eq_true hc221
              refine wp_skip ?_
              refine then_normal ?_
              refine wp_seq ?_
              refine wp_block ?_
              refine region_from ?_  -- region 27
              refine d_pures [(0, .slice a_x (List.length x) c_x), (1, .slice a_l (List.length l) c_l), (6, .slice ao19 (List.length x) cp20), (7, .pointer (some ⟨bq31, 0, none⟩)), (8, .pointer (some ⟨bq42, 0, none⟩)), (9, .int .i64 ((k55 : Nat) : Int)), (10, .int .i64 ((j : Nat) : Int)), (11, .pointer (some ⟨bk127, 0, none⟩)), (12, .slice ao146 (List.length x124c) cp147), (13, .int .i64 ((k208 : Nat) : Int)), (60, .int .i64 (x124a % (2 ^ 2 : Int))), (93, .slice ao146 (List.length x124c) cp147), (94, .int .i64 ((k208 : Nat) : Int))] [.slice ao146 (List.length x124c) cp147, .int .i64 ((k208 : Nat) : Int)] 2 En220 (by kernel_rfl) (by kernel_rfl) rfl ?_
              intro ac222 En223
              refine from_op (by kernel_rfl) ?_
              refine op_index (d := some 95) (t := 22) (e := 5) (sz := 1) (len := List.length x124c) (cap := cp147) (j := k208) (ao := ao146) (k := .i64) (ix := ((k208 : Nat) : Int)) En223 (by kernel_rfl) (fun e => by have h := (bys_vnz Hv217.heap (k := 0) rfl) e; first | omega | (simp at h; omega)) (by kernel_rfl) (by kernel_rfl) (by omega) (by omega) (jo := k208) (Nat.mul_one _) ?_
              intro ac226 adr224 had225 En227
              refine from_op (by kernel_rfl) ?_
              have hb228 : k208 < List.length lo206 := by omega
              refine op_loadel (d := some 96) (t := 5) (ad := adr224) (ao := ao146) (xs := bys lo206) (j := k208) (v := .int .u8 ((UInt8.toNat ((lo206)[k208]'hb228) : Nat) : Int)) En227 (by kernel_rfl) (Hv217.heap.reads (k := 0) rfl) had225 (bys_get hb228) (by kernel_rfl) ?_
              intro ac229 En230
              refine d_pures [(0, .slice a_x (List.length x) c_x), (1, .slice a_l (List.length l) c_l), (6, .slice ao19 (List.length x) cp20), (7, .pointer (some ⟨bq31, 0, none⟩)), (8, .pointer (some ⟨bq42, 0, none⟩)), (9, .int .i64 ((k55 : Nat) : Int)), (10, .int .i64 ((j : Nat) : Int)), (11, .pointer (some ⟨bk127, 0, none⟩)), (12, .slice ao146 (List.length x124c) cp147), (13, .int .i64 ((k208 : Nat) : Int)), (60, .int .i64 (x124a % (2 ^ 2 : Int))), (93, .slice ao146 (List.length x124c) cp147), (94, .int .i64 ((k208 : Nat) : Int)), (97, .int .u8 (IntKind.wrap .u8 (((UInt8.toNat ((lo206)[k208]'hb228) : Nat) : Int) + (1 : Int))))] [.int .u8 (IntKind.wrap .u8 (((UInt8.toNat ((lo206)[k208]'hb228) : Nat) : Int) + (1 : Int)))] 5 En230 (by kernel_rfl) (by kernel_rfl) rfl ?_
              intro ac231 En232
              rw [Go.Dbr.u8_add (a := ((UInt8.toNat ((lo206)[k208]'hb228) : Nat) : Int)) (b := (1 : Int)) (x := (lo206)[k208]'hb228) (y := (1 : UInt8)) rfl rfl] at En232
              refine from_op (by kernel_rfl) ?_
              refine op_index (d := some 98) (t := 22) (e := 5) (sz := 1) (len := List.length x124c) (cap := cp147) (j := k208) (ao := ao146) (k := .i64) (ix := ((k208 : Nat) : Int)) En232 (by kernel_rfl) (fun e => by have h := (bys_vnz Hv217.heap (k := 0) rfl) e; first | omega | (simp at h; omega)) (by kernel_rfl) (by kernel_rfl) (by omega) (by omega) (jo := k208) (Nat.mul_one _) ?_
              intro ac235 adr233 had234 En236
              refine from_op (by kernel_rfl) ?_
              refine op_storeel (d := none) (t := 5) (ad := adr233) (ao := ao146) (k := 0) (cap := cp147) (sz := 1) (j := k208) (xs := bys lo206) (v := bv (((lo206)[k208]'hb228) + (1 : UInt8))) En236 (by kernel_rfl) Hv217 rfl had234 (by rw [bys_length]; omega) (by kernel_rfl) rfl ?_
              intro ac237 wo238  En239 Hv240
              rw [bys_set] at Hv240
              refine from_end (by kernel_rfl) ?_
              refine block_normal ?_
              refine then_normal ?_
              refine region_from ?_  -- region 26
              refine d_pures [(0, .slice a_x (List.length x) c_x), (1, .slice a_l (List.length l) c_l), (6, .slice ao19 (List.length x) cp20), (7, .pointer (some ⟨bq31, 0, none⟩)), (8, .pointer (some ⟨bq42, 0, none⟩)), (9, .int .i64 ((k55 : Nat) : Int)), (10, .int .i64 ((j : Nat) : Int)), (11, .pointer (some ⟨bk127, 0, none⟩)), (12, .slice ao146 (List.length x124c) cp147), (13, .int .i64 ((k208 : Nat) : Int)), (60, .int .i64 (x124a % (2 ^ 2 : Int))), (92, .int .i64 (IntKind.wrap .i64 (((k208 : Nat) : Int) + (1 : Int))))] [.int .i64 ((k208 : Nat) : Int), .int .i64 (IntKind.wrap .i64 (((k208 : Nat) : Int) + (1 : Int)))] 2 En239 (by kernel_rfl) (by kernel_rfl) rfl ?_
              intro ac241 En242
              rw [Go.Dbr.wr64 (e := ((k208 : Nat) : Int) + (1 : Int)) (x := ((k208 + 1 : Nat) : Int)) (by omega) (by omega) (by omega)] at En242
              refine d_pures [(0, .slice a_x (List.length x) c_x), (1, .slice a_l (List.length l) c_l), (6, .slice ao19 (List.length x) cp20), (7, .pointer (some ⟨bq31, 0, none⟩)), (8, .pointer (some ⟨bq42, 0, none⟩)), (9, .int .i64 ((k55 : Nat) : Int)), (10, .int .i64 ((j : Nat) : Int)), (11, .pointer (some ⟨bk127, 0, none⟩)), (12, .slice ao146 (List.length x124c) cp147), (13, .int .i64 ((k208 + 1 : Nat) : Int)), (60, .int .i64 (x124a % (2 ^ 2 : Int)))] [.int .i64 ((k208 + 1 : Nat) : Int)] 3 En242 (by kernel_rfl) (by kernel_rfl) rfl ?_
              intro ac243 En244
              refine from_end (by kernel_rfl) ?_
              refine then_normal ?_
              refine ⟨_, ⟨k208 + 1, List.set lo206 k208 (((lo206)[k208]'hb228) + (1 : UInt8)), rfl, En244.sub (by kernel_rfl), Hv240.pick [0, 1, 2, 3, 4, 5, 6, 7, 8, 9, 10, 11, 12, 13, 14, 15, 16, 17] (by kernel_rfl) (by decide), by simp [hl209], by first | omega | (simp; omega)⟩, ?_⟩
              first | omega | (simp; omega)
            ·
              replace hc221 : ¬ (((k208 : Nat) : Int) < ((List.length x124c : Nat) : Int)) := of_decide_eq_false hc221
              refine wp_exit ?_
              refine then_exit ?_
              refine then_exit ?_
              refine block_exit ?_
              have feq178 := (f_q178.trans (f_q195).symm)
              simp only [Rel.mk.injEq] at feq178
              obtain ⟨rfl, rfl, rfl, rfl, rfl, rfl, rfl, rfl, rfl, rfl, rfl⟩ := feq178
              have k1 : Rel.ok (⟨luq178, ldq178, lhq178, lpq178, lqq178, fcq178, feq178, lrq178, lvq178, bcq178, beq178⟩ : Rel) := by rw [f_q178]; exact Rel.ok_write hok _ _
              have k2 : Rel.size (⟨luq178, ldq178, lhq178, lpq178, lqq178, fcq178, feq178, lrq178, lvq178, bcq178, beq178⟩ : Rel) ≤ List.length x + ((List.map (fun x : (Int) × (Int) × (Sl UInt8) × (Int) × Unit => (0 + (0 + (List.length x.2.2.1.l + (0 + (0))))) + 1) (List.take j l)).sum + (fun x : (Int) × (Int) × (Sl UInt8) × (Int) × Unit => (0 + (0 + (List.length x.2.2.1.l + (0 + (0))))) + 1) (⟨x124a, x124b, ⟨a_x124c, c_x124c, x124c⟩, x124d, ()⟩ : (Int) × (Int) × (Sl UInt8) × (Int) × Unit)) := by rw [f_q178]; have h1 := Rel.size_write (⟨lu, ld, lh, lp, lq, fc, fe, lr, lv, bc, be⟩ : Rel) x124b x124c; have h2 := hsz; simp only at h1 h2 ⊢; omega
              have k3 := Rel.sizes k1 (Nat.le_trans k2 (Nat.le_trans (Nat.add_le_add_left (sum_step _ hx123) _) hB))
              exact ⟨rfl, ⟨auq178, adq178, ahq178, apq178, aqq178, arq178, avq178, cuq178, cdq178, chq178, cpq178, cqq178, crq178, cvq178, auq195, adq195, ahq195, apq195, aqq195, arq195, avq195, cuq195, cdq195, chq195, cpq195, cqq195, crq195, cvq195, luq178, ldq178, lhq178, lpq178, lqq178, lrq178, lvq178, fcq178, feq178, bcq178, beq178, En220.sub (by kernel_rfl), Hv217.pick [9, 10, 11, 12, 13, 14, 15, 16, 1, 2, 3, 4, 5, 6, 7, 8] (by kernel_rfl) (by decide), k1, k2, k3⟩⟩
          ·
            replace hc171 : ¬ (tw = true) := Bool.eq_false_iff.1 hc171
            refine wp_seq ?_
            refine region_from ?_  -- region 28
            refine d_pures [(0, .slice a_x (List.length x) c_x), (1, .slice a_l (List.length l) c_l), (6, .slice ao19 (List.length x) cp20), (7, .pointer (some ⟨bq31, 0, none⟩)), (8, .pointer (some ⟨bq42, 0, none⟩)), (9, .int .i64 ((k55 : Nat) : Int)), (10, .int .i64 ((j : Nat) : Int)), (11, .pointer (some ⟨bk127, 0, none⟩)), (12, .slice ao146 (List.length x124c) cp147), (60, .int .i64 (x124a % (2 ^ 2 : Int))), (99, .bool (x124a % (2 ^ 2 : Int) == (2 : Int)))] [.bool (x124a % (2 ^ 2 : Int) == (2 : Int)), .bool (x124a % (2 ^ 2 : Int) == (2 : Int))] 2 En169 (by kernel_rfl) (by kernel_rfl) rfl ?_
            intro ac245 En246
            refine from_end (by kernel_rfl) ?_
            refine then_normal ?_
            refine cond_at En246 (t := x124a % (2 ^ 2 : Int) == (2 : Int)) (by kernel_rfl) (fun hc247 => ?_) (fun hc247 => ?_)
            ·
              replace hc247 : x124a % (2 ^ 2 : Int) = (2 : Int) := eq_of_beq hc247
              refine wp_seq ?_
              refine region_from ?_  -- region 29
              refine d_pures [(0, .slice a_x (List.length x) c_x), (1, .slice a_l (List.length l) c_l), (6, .slice ao19 (List.length x) cp20), (7, .pointer (some ⟨bq31, 0, none⟩)), (8, .pointer (some ⟨bq42, 0, none⟩)), (9, .int .i64 ((k55 : Nat) : Int)), (10, .int .i64 ((j : Nat) : Int)), (11, .pointer (some ⟨bk127, 0, none⟩)), (12, .slice ao146 (List.length x124c) cp147), (60, .int .i64 (x124a % (2 ^ 2 : Int))), (101, .pointer (some ⟨bq31, 0, none⟩)), (102, .pointer (some ⟨bk127, 1, none⟩))] [.pointer (some ⟨bq31, 0, none⟩), .pointer (some ⟨bk127, 1, none⟩)] 2 En246 (by kernel_rfl) (by kernel_rfl) rfl ?_
              intro ac248 En249
              refine from_op (by kernel_rfl) ?_
              refine op_loadbox (d := some 103) (t := 44) (b := bk127) (off := 1) (k := 16) (v := .int .i64 x124b) En249 (by kernel_rfl) Hv170 rfl rfl (by kernel_rfl) ?_
              intro ac250 En251
              refine d_pures [(0, .slice a_x (List.length x) c_x), (1, .slice a_l (List.length l) c_l), (6, .slice ao19 (List.length x) cp20), (7, .pointer (some ⟨bq31, 0, none⟩)), (8, .pointer (some ⟨bq42, 0, none⟩)), (9, .int .i64 ((k55 : Nat) : Int)), (10, .int .i64 ((j : Nat) : Int)), (11, .pointer (some ⟨bk127, 0, none⟩)), (12, .slice ao146 (List.length x124c) cp147), (60, .int .i64 (x124a % (2 ^ 2 : Int))), (101, .pointer (some ⟨bq31, 0, none⟩)), (103, .int .i64 x124b), (104, .pointer (some ⟨bk127, 3, none⟩))] [.pointer (some ⟨bk127, 3, none⟩)] 4 En251 (by kernel_rfl) (by kernel_rfl) rfl ?_
              intro ac252 En253
              refine from_op (by kernel_rfl) ?_
              refine op_loadbox (d := some 105) (t := 3) (b := bk127) (off := 3) (k := 16) (v := .int .i64 x124d) En253 (by kernel_rfl) Hv170 rfl rfl (by kernel_rfl) ?_
              intro ac254 En255
              refine from_op (by kernel_rfl) ?_
              have hS257 : List.length lu + List.length ld + List.length lh + List.length lp + List.length lq + List.length lr + List.length lv ≤ 3145728 := Rel.sizes hok (Nat.le_trans hsz (Nat.le_trans (Nat.add_le_add_left (sum_take_le _ l j) _) hB))
              have hq258 : List.length x124c ≤ 1048576 := by have h := Nat.le_trans (sum_step (fun x : (Int) × (Int) × (Sl UInt8) × (Int) × Unit => (0 + (0 + (List.length x.2.2.1.l + (0 + (0))))) + 1) hx123) (Nat.le_trans (Nat.le_add_left _ _) hB); simp only at h; omega
              have hM259 : Heap wo168 [.box bq31 [.slice aux (List.length lu) cux, .bool fc, .slice adx (List.length ld) cdx, .bool bc, .slice ahx (List.length lh) chx, .slice apx (List.length lp) cpx, .slice aqx (List.length lq) cqx, .bool fc, .bool fe, .slice arx (List.length lr) crx, .slice avx (List.length lv) cvx, .bool bc, .bool be] 66, .vec aux cux 1 (bys lu) 5, .vec adx cdx 1 (bys ld) 5, .vec ahx chx 1 (bys lh) 5, .vec apx cpx 1 (bys lp) 5, .vec aqx cqx 1 (bys lq) 5, .vec arx crx 1 (bys lr) 5, .vec avx cvx 1 (bys lv) 5] := Hv170.heap.pick [0, 1, 2, 3, 4, 5, 6, 7] (by kernel_rfl) (by decide)
              refine op_call (d := some 106) (f := 21) (args := #[.pointer (some ⟨bq31, 0, none⟩), .int .i64 x124b, .int .i64 x124d]) En255 (by kernel_rfl) ((xread _ bq31 aux adx ahx apx aqx arx avx cux cdx chx cpx cqx crx cvx lu ld lh lp lq lr lv fc fe bc be x124d x124b hM259 (by omega)).mono ?_)
              rintro _ wo261 ⟨auq256, adq256, ahq256, apq256, aqq256, arq256, avq256, cuq256, cdq256, chq256, cpq256, cqq256, crq256, cvq256, luq256, ldq256, lhq256, lpq256, lqq256, lrq256, lvq256, fcq256, feq256, bcq256, beq256, aoq256, coq256, loq256, rfl, he264, f_q256, g_q256⟩
              refine ⟨_, rfl, ?_⟩
              intro ac260 En262
              have Hv263 : Ev w [] wo261 [.box bq31 [.slice auq256 (List.length luq256) cuq256, .bool fcq256, .slice adq256 (List.length ldq256) cdq256, .bool bcq256, .slice ahq256 (List.length lhq256) chq256, .slice apq256 (List.length lpq256) cpq256, .slice aqq256 (List.length lqq256) cqq256, .bool fcq256, .bool feq256, .slice arq256 (List.length lrq256) crq256, .slice avq256 (List.length lvq256) cvq256, .bool bcq256, .bool beq256] 66, .vec auq256 cuq256 1 (bys luq256) 5, .vec adq256 cdq256 1 (bys ldq256) 5, .vec ahq256 chq256 1 (bys lhq256) 5, .vec apq256 cpq256 1 (bys lpq256) 5, .vec aqq256 cqq256 1 (bys lqq256) 5, .vec arq256 crq256 1 (bys lrq256) 5, .vec avq256 cvq256 1 (bys lvq256) 5, .vec aoq256 coq256 1 (bys loq256) 5, .box bq42 [.slice auy (List.length lu) cuy, .slice ady (List.length ld) cdy, .slice ahy (List.length lh) chy, .slice apy (List.length lp) cpy, .slice aqy (List.length lq) cqy, .bool fc, .bool fe, .slice ary (List.length lr) cry, .slice avy (List.length lv) cvy, .bool bc, .bool be] 53, .vec auy cuy 1 (bys lu) 5, .vec ady cdy 1 (bys ld) 5, .vec ahy chy 1 (bys lh) 5, .vec apy cpy 1 (bys lp) 5, .vec aqy cqy 1 (bys lq) 5, .vec ary cry 1 (bys lr) 5, .vec avy cvy 1 (bys lv) 5, .box bk127 [.int .i64 x124a, .int .i64 x124b, .slice a_x124c (List.length x124c) c_x124c, .int .i64 x124d] 46, .vec ao146 cp147 1 (bys x124c) 5] := Hv170.trans (Ev.call (R := [.box bq42 [.slice auy (List.length lu) cuy, .slice ady (List.length ld) cdy, .slice ahy (List.length lh) chy, .slice apy (List.length lp) cpy, .slice aqy (List.length lq) cqy, .bool fc, .bool fe, .slice ary (List.length lr) cry, .slice avy (List.length lv) cvy, .bool bc, .bool be] 53, .vec auy cuy 1 (bys lu) 5, .vec ady cdy 1 (bys ld) 5, .vec ahy chy 1 (bys lh) 5, .vec apy cpy 1 (bys lp) 5, .vec aqy cqy 1 (bys lq) 5, .vec ary cry 1 (bys lr) 5, .vec avy cvy 1 (bys lv) 5, .box bk127 [.int .i64 x124a, .int .i64 x124b, .slice a_x124c (List.length x124c) c_x124c, .int .i64 x124d] 46, .vec ao146 cp147 1 (bys x124c) 5]) Hv170.heap [0, 1, 2, 3, 4, 5, 6, 7, 8, 9, 10, 11, 12, 13, 14, 15, 16, 17] (by kernel_rfl) (by decide) he264)
              clear hM259 he264
              refine d_pures [(0, .slice a_x (List.length x) c_x), (1, .slice a_l (List.length l) c_l), (6, .slice ao19 (List.length x) cp20), (7, .pointer (some ⟨bq31, 0, none⟩)), (8, .pointer (some ⟨bq42, 0, none⟩)), (9, .int .i64 ((k55 : Nat) : Int)), (10, .int .i64 ((j : Nat) : Int)), (11, .pointer (some ⟨bk127, 0, none⟩)), (12, .slice ao146 (List.length x124c) cp147), (14, .slice aoq256 (List.length loq256) coq256), (60, .int .i64 (x124a % (2 ^ 2 : Int)))] [.slice aoq256 (List.length loq256) coq256] 7 En262 (by kernel_rfl) (by kernel_rfl) rfl ?_
              intro ac265 En266
              refine from_end (by kernel_rfl) ?_
              refine then_normal ?_
              refine wp_seq ?_
              refine region_from ?_  -- region 30
              refine d_pures [(0, .slice a_x (List.length x) c_x), (1, .slice a_l (List.length l) c_l), (6, .slice ao19 (List.length x) cp20), (7, .pointer (some ⟨bq31, 0, none⟩)), (8, .pointer (some ⟨bq42, 0, none⟩)), (9, .int .i64 ((k55 : Nat) : Int)), (10, .int .i64 ((j : Nat) : Int)), (11, .pointer (some ⟨bk127, 0, none⟩)), (12, .slice ao146 (List.length x124c) cp147), (14, .slice aoq256 (List.length loq256) coq256), (60, .int .i64 (x124a % (2 ^ 2 : Int))), (107, .pointer (some ⟨bq42, 0, none⟩)), (108, .pointer (some ⟨bk127, 1, none⟩))] [.pointer (some ⟨bq42, 0, none⟩), .pointer (some ⟨bk127, 1, none⟩)] 2 En266 (by kernel_rfl) (by kernel_rfl) rfl ?_
              intro ac267 En268
              refine from_op (by kernel_rfl) ?_
              refine op_loadbox (d := some 109) (t := 44) (b := bk127) (off := 1) (k := 17) (v := .int .i64 x124b) En268 (by kernel_rfl) Hv263 rfl rfl (by kernel_rfl) ?_
              intro ac269 En270
              refine d_pures [(0, .slice a_x (List.length x) c_x), (1, .slice a_l (List.length l) c_l), (6, .slice ao19 (List.length x) cp20), (7, .pointer (some ⟨bq31, 0, none⟩)), (8, .pointer (some ⟨bq42, 0, none⟩)), (9, .int .i64 ((k55 : Nat) : Int)), (10, .int .i64 ((j : Nat) : Int)), (11, .pointer (some ⟨bk127, 0, none⟩)), (12, .slice ao146 (List.length x124c) cp147), (14, .slice aoq256 (List.length loq256) coq256), (60, .int .i64 (x124a % (2 ^ 2 : Int))), (107, .pointer (some ⟨bq42, 0, none⟩)), (109, .int .i64 x124b), (110, .pointer (some ⟨bk127, 3, none⟩))] [.pointer (some ⟨bk127, 3, none⟩)] 4 En270 (by kernel_rfl) (by kernel_rfl) rfl ?_
              intro ac271 En272
              refine from_op (by kernel_rfl) ?_
              refine op_loadbox (d := some 111) (t := 3) (b := bk127) (off := 3) (k := 17) (v := .int .i64 x124d) En272 (by kernel_rfl) Hv263 rfl rfl (by kernel_rfl) ?_
              intro ac273 En274
              refine from_op (by kernel_rfl) ?_
              have hS276 : List.length lu + List.length ld + List.length lh + List.length lp + List.length lq + List.length lr + List.length lv ≤ 3145728 := Rel.sizes hok (Nat.le_trans hsz (Nat.le_trans (Nat.add_le_add_left (sum_take_le _ l j) _) hB))
              have hq277 : List.length x124c ≤ 1048576 := by have h := Nat.le_trans (sum_step (fun x : (Int) × (Int) × (Sl UInt8) × (Int) × Unit => (0 + (0 + (List.length x.2.2.1.l + (0 + (0))))) + 1) hx123) (Nat.le_trans (Nat.le_add_left _ _) hB); simp only at h; omega
              have hM278 : Heap wo261 [.box bq42 [.slice auy (List.length lu) cuy, .slice ady (List.length ld) cdy, .slice ahy (List.length lh) chy, .slice apy (List.length lp) cpy, .slice aqy (List.length lq) cqy, .bool fc, .bool fe, .slice ary (List.length lr) cry, .slice avy (List.length lv) cvy, .bool bc, .bool be] 53, .vec auy cuy 1 (bys lu) 5, .vec ady cdy 1 (bys ld) 5, .vec ahy chy 1 (bys lh) 5, .vec apy cpy 1 (bys lp) 5, .vec aqy cqy 1 (bys lq) 5, .vec ary cry 1 (bys lr) 5, .vec avy cvy 1 (bys lv) 5] := Hv263.heap.pick [9, 10, 11, 12, 13, 14, 15, 16] (by kernel_rfl) (by decide)
              refine op_call (d := some 112) (f := 22) (args := #[.pointer (some ⟨bq42, 0, none⟩), .int .i64 x124b, .int .i64 x124d]) En274 (by kernel_rfl) ((yread _ bq42 auy ady ahy apy aqy ary avy cuy cdy chy cpy cqy cry cvy lu ld lh lp lq lr lv fc fe bc be x124d x124b hM278 (by omega)).mono ?_)
              rintro _ wo280 ⟨auq275, adq275, ahq275, apq275, aqq275, arq275, avq275, cuq275, cdq275, chq275, cpq275, cqq275, crq275, cvq275, luq275, ldq275, lhq275, lpq275, lqq275, lrq275, lvq275, fcq275, feq275, bcq275, beq275, aoq275, coq275, loq275, rfl, he283, f_q275, g_q275⟩
              refine ⟨_, rfl, ?_⟩
              intro ac279 En281
              have Hv282 : Ev w [] wo280 [.box bq42 [.slice auq275 (List.length luq275) cuq275, .slice adq275 (List.length ldq275) cdq275, .slice ahq275 (List.length lhq275) chq275, .slice apq275 (List.length lpq275) cpq275, .slice aqq275 (List.length lqq275) cqq275, .bool fcq275, .bool feq275, .slice arq275 (List.length lrq275) crq275, .slice avq275 (List.length lvq275) cvq275, .bool bcq275, .bool beq275] 53, .vec auq275 cuq275 1 (bys luq275) 5, .vec adq275 cdq275 1 (bys ldq275) 5, .vec ahq275 chq275 1 (bys lhq275) 5, .vec apq275 cpq275 1 (bys lpq275) 5, .vec aqq275 cqq275 1 (bys lqq275) 5, .vec arq275 crq275 1 (bys lrq275) 5, .vec avq275 cvq275 1 (bys lvq275) 5, .vec aoq275 coq275 1 (bys loq275) 5, .box bq31 [.slice auq256 (List.length luq256) cuq256, .bool fcq256, .slice adq256 (List.length ldq256) cdq256, .bool bcq256, .slice ahq256 (List.length lhq256) chq256, .slice apq256 (List.length lpq256) cpq256, .slice aqq256 (List.length lqq256) cqq256, .bool fcq256, .bool feq256, .slice arq256 (List.length lrq256) crq256, .slice avq256 (List.length lvq256) cvq256, .bool bcq256, .bool beq256] 66, .vec auq256 cuq256 1 (bys luq256) 5, .vec adq256 cdq256 1 (bys ldq256) 5, .vec ahq256 chq256 1 (bys lhq256) 5, .vec apq256 cpq256 1 (bys lpq256) 5, .vec aqq256 cqq256 1 (bys lqq256) 5, .vec arq256 crq256 1 (bys lrq256) 5, .vec avq256 cvq256 1 (bys lvq256) 5, .vec aoq256 coq256 1 (bys loq256) 5, .box bk127 [.int .i64 x124a, .int .i64 x124b, .slice a_x124c (List.length x124c) c_x124c, .int .i64 x124d] 46, .vec ao146 cp147 1 (bys x124c) 5] := Hv263.trans (Ev.call (R := [.box bq31 [.slice auq256 (List.length luq256) cuq256, .bool fcq256, .slice adq256 (List.length ldq256) cdq256, .bool bcq256, .slice ahq256 (List.length lhq256) chq256, .slice apq256 (List.length lpq256) cpq256, .slice aqq256 (List.length lqq256) cqq256, .bool fcq256, .bool feq256, .slice arq256 (List.length lrq256) crq256, .slice avq256 (List.length lvq256) cvq256, .bool bcq256, .bool beq256] 66, .vec auq256 cuq256 1 (bys luq256) 5, .vec adq256 cdq256 1 (bys ldq256) 5, .vec ahq256 chq256 1 (bys lhq256) 5, .vec apq256 cpq256 1 (bys lpq256) 5, .vec aqq256 cqq256 1 (bys lqq256) 5, .vec arq256 crq256 1 (bys lrq256) 5, .vec avq256 cvq256 1 (bys lvq256) 5, .vec aoq256 coq256 1 (bys loq256) 5, .box bk127 [.int .i64 x124a, .int .i64 x124b, .slice a_x124c (List.length x124c) c_x124c, .int .i64 x124d] 46, .vec ao146 cp147 1 (bys x124c) 5]) Hv263.heap [9, 10, 11, 12, 13, 14, 15, 16, 0, 1, 2, 3, 4, 5, 6, 7, 8, 17, 18] (by kernel_rfl) (by decide) he283)
              clear hM278 he283
              refine d_pures [(0, .slice a_x (List.length x) c_x), (1, .slice a_l (List.length l) c_l), (6, .slice ao19 (List.length x) cp20), (7, .pointer (some ⟨bq31, 0, none⟩)), (8, .pointer (some ⟨bq42, 0, none⟩)), (9, .int .i64 ((k55 : Nat) : Int)), (10, .int .i64 ((j : Nat) : Int)), (11, .pointer (some ⟨bk127, 0, none⟩)), (12, .slice ao146 (List.length x124c) cp147), (14, .slice aoq256 (List.length loq256) coq256), (15, .slice aoq275 (List.length loq275) coq275), (60, .int .i64 (x124a % (2 ^ 2 : Int)))] [.slice aoq275 (List.length loq275) coq275] 7 En281 (by kernel_rfl) (by kernel_rfl) rfl ?_
              intro ac284 En285
              refine from_end (by kernel_rfl) ?_
              refine then_normal ?_
              refine wp_seq ?_
              refine wp_seq ?_
              refine region_from ?_  -- region 31
              refine d_pures [(0, .slice a_x (List.length x) c_x), (1, .slice a_l (List.length l) c_l), (6, .slice ao19 (List.length x) cp20), (7, .pointer (some ⟨bq31, 0, none⟩)), (8, .pointer (some ⟨bq42, 0, none⟩)), (9, .int .i64 ((k55 : Nat) : Int)), (10, .int .i64 ((j : Nat) : Int)), (11, .pointer (some ⟨bk127, 0, none⟩)), (12, .slice ao146 (List.length x124c) cp147), (14, .slice aoq256 (List.length loq256) coq256), (15, .slice aoq275 (List.length loq275) coq275), (60, .int .i64 (x124a % (2 ^ 2 : Int))), (113, .slice aoq256 (List.length loq256) coq256)] [.slice aoq256 (List.length loq256) coq256] 1 En285 (by kernel_rfl) (by kernel_rfl) rfl ?_
              intro ac286 En287
              refine from_op (by kernel_rfl) ?_
              refine op_str (d := some 114) (src := 22) (dst := 9) (e := 5) (ao := aoq256) (cap := coq256) (p := List.length loq256) (bs := loq256) En287 (by kernel_rfl) rfl (by kernel_rfl) (by kernel_rfl) (by kernel_rfl) (Hv282.heap.reads (k := 17) rfl) (bys_vnz Hv282.heap (k := 17) rfl) ?_
              intro ac288 En289
              refine d_pures [(0, .slice a_x (List.length x) c_x), (1, .slice a_l (List.length l) c_l), (6, .slice ao19 (List.length x) cp20), (7, .pointer (some ⟨bq31, 0, none⟩)), (8, .pointer (some ⟨bq42, 0, none⟩)), (9, .int .i64 ((k55 : Nat) : Int)), (10, .int .i64 ((j : Nat) : Int)), (11, .pointer (some ⟨bk127, 0, none⟩)), (12, .slice ao146 (List.length x124c) cp147), (14, .slice aoq256 (List.length loq256) coq256), (60, .int .i64 (x124a % (2 ^ 2 : Int))), (114, .string (bstr loq256)), (115, .slice aoq275 (List.length loq275) coq275)] [.slice aoq275 (List.length loq275) coq275] 3 En289 (by kernel_rfl) (by kernel_rfl) rfl ?_
              intro ac290 En291
              refine from_op (by kernel_rfl) ?_
              refine op_str (d := some 116) (src := 22) (dst := 9) (e := 5) (ao := aoq275) (cap := coq275) (p := List.length loq275) (bs := loq275) En291 (by kernel_rfl) rfl (by kernel_rfl) (by kernel_rfl) (by kernel_rfl) (Hv282.heap.reads (k := 8) rfl) (bys_vnz Hv282.heap (k := 8) rfl) ?_
              intro ac292 En293
              refine d_pures [(0, .slice a_x (List.length x) c_x), (1, .slice a_l (List.length l) c_l), (6, .slice ao19 (List.length x) cp20), (7, .pointer (some ⟨bq31, 0, none⟩)), (8, .pointer (some ⟨bq42, 0, none⟩)), (9, .int .i64 ((k55 : Nat) : Int)), (10, .int .i64 ((j : Nat) : Int)), (11, .pointer (some ⟨bk127, 0, none⟩)), (12, .slice ao146 (List.length x124c) cp147), (14, .slice aoq256 (List.length loq256) coq256), (60, .int .i64 (x124a % (2 ^ 2 : Int))), (117, .bool (!(ByteArray.toList (bstr loq256) == ByteArray.toList (bstr loq275))))] [.bool (!(ByteArray.toList (bstr loq256) == ByteArray.toList (bstr loq275)))] 5 En293 (by kernel_rfl) (by kernel_rfl) rfl ?_
              intro ac294 En295
              rw [Go.Dbr.bstr_eq loq256 loq275, show (!(loq256 == loq275)) = false from (by rw [g_q256, g_q275]; simp)] at En295
              refine from_end (by kernel_rfl) ?_
              refine then_normal ?_
              refine cond_false En295 (t := false) (by kernel_rfl) rfl ?_
              refine wp_skip ?_
              refine then_normal ?_
              refine wp_seq ?_
              refine region_from ?_  -- region 33
              refine d_pures [(0, .slice a_x (List.length x) c_x), (1, .slice a_l (List.length l) c_l), (6, .slice ao19 (List.length x) cp20), (7, .pointer (some ⟨bq31, 0, none⟩)), (8, .pointer (some ⟨bq42, 0, none⟩)), (9, .int .i64 ((k55 : Nat) : Int)), (10, .int .i64 ((j : Nat) : Int)), (11, .pointer (some ⟨bk127, 0, none⟩)), (12, .slice ao146 (List.length x124c) cp147), (14, .slice aoq256 (List.length loq256) coq256), (16, .int .i64 0), (60, .int .i64 (x124a % (2 ^ 2 : Int)))] [.int .i64 0] 1 En295 (by kernel_rfl) (by kernel_rfl) rfl ?_
              intro ac296 En297
              refine from_end (by kernel_rfl) ?_
              refine then_normal ?_
              refine wp_block ?_
              have hvc303 := bys_max Hv282.heap (k := 17) rfl
              refine loop_m (fun ms304 ac wo => ∃ (k300 : Nat) (lo298 : List UInt8), ms304 = (List.length loq256 - k300 : Nat) ∧ Env ac 145 [(0, .slice a_x (List.length x) c_x), (1, .slice a_l (List.length l) c_l), (6, .slice ao19 (List.length x) cp20), (7, .pointer (some ⟨bq31, 0, none⟩)), (8, .pointer (some ⟨bq42, 0, none⟩)), (9, .int .i64 ((k55 : Nat) : Int)), (10, .int .i64 ((j : Nat) : Int)), (11, .pointer (some ⟨bk127, 0, none⟩)), (12, .slice ao146 (List.length x124c) cp147), (14, .slice aoq256 (List.length loq256) coq256), (16, .int .i64 ((k300 : Nat) : Int)), (60, .int .i64 (x124a % (2 ^ 2 : Int)))] ∧ Ev w [] wo [.vec aoq256 coq256 1 (bys lo298) 5, .box bq42 [.slice auq275 (List.length luq275) cuq275, .slice adq275 (List.length ldq275) cdq275, .slice ahq275 (List.length lhq275) chq275, .slice apq275 (List.length lpq275) cpq275, .slice aqq275 (List.length lqq275) cqq275, .bool fcq275, .bool feq275, .slice arq275 (List.length lrq275) crq275, .slice avq275 (List.length lvq275) cvq275, .bool bcq275, .bool beq275] 53, .vec auq275 cuq275 1 (bys luq275) 5, .vec adq275 cdq275 1 (bys ldq275) 5, .vec ahq275 chq275 1 (bys lhq275) 5, .vec apq275 cpq275 1 (bys lpq275) 5, .vec aqq275 cqq275 1 (bys lqq275) 5, .vec arq275 crq275 1 (bys lrq275) 5, .vec avq275 cvq275 1 (bys lvq275) 5, .vec aoq275 coq275 1 (bys loq275) 5, .box bq31 [.slice auq256 (List.length luq256) cuq256, .bool fcq256, .slice adq256 (List.length ldq256) cdq256, .bool bcq256, .slice ahq256 (List.length lhq256) chq256, .slice apq256 (List.length lpq256) cpq256, .slice aqq256 (List.length lqq256) cqq256, .bool fcq256, .bool feq256, .slice arq256 (List.length lrq256) crq256, .slice avq256 (List.length lvq256) cvq256, .bool bcq256, .bool beq256] 66, .vec auq256 cuq256 1 (bys luq256) 5, .vec adq256 cdq256 1 (bys ldq256) 5, .vec ahq256 chq256 1 (bys lhq256) 5, .vec apq256 cpq256 1 (bys lpq256) 5, .vec aqq256 cqq256 1 (bys lqq256) 5, .vec arq256 crq256 1 (bys lrq256) 5, .vec avq256 cvq256 1 (bys lvq256) 5, .box bk127 [.int .i64 x124a, .int .i64 x124b, .slice a_x124c (List.length x124c) c_x124c, .int .i64 x124d] 46, .vec ao146 cp147 1 (bys x124c) 5] ∧ (List.length lo298 = List.length loq256) ∧ (k300 ≤ List.length loq256)) ⟨_, 0, loq256, rfl, En297.sub (by kernel_rfl), Hv282.pick [17, 0, 1, 2, 3, 4, 5, 6, 7, 8, 9, 10, 11, 12, 13, 14, 15, 16, 18, 19] (by kernel_rfl) (by decide), rfl, by omega⟩ ?_
              rintro mm310 ac306 wo307 ⟨k300, lo298, rfl, En308, Hv309, hl301, hk302⟩
              refine wp_seq ?_
              refine wp_seq ?_
              refine region_from ?_  -- region 34
              refine d_pures [(0, .slice a_x (List.length x) c_x), (1, .slice a_l (List.length l) c_l), (6, .slice ao19 (List.length x) cp20), (7, .pointer (some ⟨bq31, 0, none⟩)), (8, .pointer (some ⟨bq42, 0, none⟩)), (9, .int .i64 ((k55 : Nat) : Int)), (10, .int .i64 ((j : Nat) : Int)), (11, .pointer (some ⟨bk127, 0, none⟩)), (12, .slice ao146 (List.length x124c) cp147), (14, .slice aoq256 (List.length loq256) coq256), (16, .int .i64 ((k300 : Nat) : Int)), (60, .int .i64 (x124a % (2 ^ 2 : Int))), (121, .bool (decide (((k300 : Nat) : Int) < ((List.length loq256 : Nat) : Int))))] [.int .i64 ((k300 : Nat) : Int), .slice aoq256 (List.length loq256) coq256, .int .i64 ((List.length loq256 : Nat) : Int), .bool (decide (((k300 : Nat) : Int) < ((List.length loq256 : Nat) : Int)))] 4 En308 (by kernel_rfl) (by kernel_rfl) rfl ?_
              intro ac311 En312
              refine from_end (by kernel_rfl) ?_
              refine then_normal ?_
              refine cond_at En312 (t := decide (((k300 : Nat) : Int) < ((List.length loq256 : Nat) : Int))) (by kernel_rfl) (fun hc313 => ?_) (fun hc313 => ?_)
              ·
                replace hc313 : ((k300 : Nat) : Int) < ((List.length loq256 : Nat) : Int) := of_decide_eq_true hc313
                refine wp_skip ?_
                refine then_normal ?_
                refine wp_seq ?_
                refine wp_block ?_
                refine region_from ?_  -- region 36
                refine d_pures [(0, .slice a_x (List.length x) c_x), (1, .slice a_l (List.length l) c_l), (6, .slice ao19 (List.length x) cp20), (7, .pointer (some ⟨bq31, 0, none⟩)), (8, .pointer (some ⟨bq42, 0, none⟩)), (9, .int .i64 ((k55 : Nat) : Int)), (10, .int .i64 ((j : Nat) : Int)), (11, .pointer (some ⟨bk127, 0, none⟩)), (12, .slice ao146 (List.length x124c) cp147), (14, .slice aoq256 (List.length loq256) coq256), (16, .int .i64 ((k300 : Nat) : Int)), (60, .int .i64 (x124a % (2 ^ 2 : Int))), (124, .slice aoq256 (List.length loq256) coq256), (125, .int .i64 ((k300 : Nat) : Int))] [.slice aoq256 (List.length loq256) coq256, .int .i64 ((k300 : Nat) : Int)] 2 En312 (by kernel_rfl) (by kernel_rfl) rfl ?_
                intro ac314 En315
                refine from_op (by kernel_rfl) ?_
                refine op_index (d := some 126) (t := 22) (e := 5) (sz := 1) (len := List.length loq256) (cap := coq256) (j := k300) (ao := aoq256) (k := .i64) (ix := ((k300 : Nat) : Int)) En315 (by kernel_rfl) (fun e => by have h := (bys_vnz Hv309.heap (k := 0) rfl) e; first | omega | (simp at h; omega)) (by kernel_rfl) (by kernel_rfl) (by omega) (by omega) (jo := k300) (Nat.mul_one _) ?_
                intro ac318 adr316 had317 En319
                refine from_op (by kernel_rfl) ?_
                have hb320 : k300 < List.length lo298 := by omega
                refine op_loadel (d := some 127) (t := 5) (ad := adr316) (ao := aoq256) (xs := bys lo298) (j := k300) (v := .int .u8 ((UInt8.toNat ((lo298)[k300]'hb320) : Nat) : Int)) En319 (by kernel_rfl) (Hv309.heap.reads (k := 0) rfl) had317 (bys_get hb320) (by kernel_rfl) ?_
                intro ac321 En322
                refine d_pures [(0, .slice a_x (List.length x) c_x), (1, .slice a_l (List.length l) c_l), (6, .slice ao19 (List.length x) cp20), (7, .pointer (some ⟨bq31, 0, none⟩)), (8, .pointer (some ⟨bq42, 0, none⟩)), (9, .int .i64 ((k55 : Nat) : Int)), (10, .int .i64 ((j : Nat) : Int)), (11, .pointer (some ⟨bk127, 0, none⟩)), (12, .slice ao146 (List.length x124c) cp147), (14, .slice aoq256 (List.length loq256) coq256), (16, .int .i64 ((k300 : Nat) : Int)), (60, .int .i64 (x124a % (2 ^ 2 : Int))), (124, .slice aoq256 (List.length loq256) coq256), (125, .int .i64 ((k300 : Nat) : Int)), (128, .int .u8 (IntKind.wrap .u8 (((UInt8.toNat ((lo298)[k300]'hb320) : Nat) : Int) + (1 : Int))))] [.int .u8 (IntKind.wrap .u8 (((UInt8.toNat ((lo298)[k300]'hb320) : Nat) : Int) + (1 : Int)))] 5 En322 (by kernel_rfl) (by kernel_rfl) rfl ?_
                intro ac323 En324
                rw [Go.Dbr.u8_add (a := ((UInt8.toNat ((lo298)[k300]'hb320) : Nat) : Int)) (b := (1 : Int)) (x := (lo298)[k300]'hb320) (y := (1 : UInt8)) rfl rfl] at En324
                refine from_op (by kernel_rfl) ?_
                refine op_index (d := some 129) (t := 22) (e := 5) (sz := 1) (len := List.length loq256) (cap := coq256) (j := k300) (ao := aoq256) (k := .i64) (ix := ((k300 : Nat) : Int)) En324 (by kernel_rfl) (fun e => by have h := (bys_vnz Hv309.heap (k := 0) rfl) e; first | omega | (simp at h; omega)) (by kernel_rfl) (by kernel_rfl) (by omega) (by omega) (jo := k300) (Nat.mul_one _) ?_
                intro ac327 adr325 had326 En328
                refine from_op (by kernel_rfl) ?_
                refine op_storeel (d := none) (t := 5) (ad := adr325) (ao := aoq256) (k := 0) (cap := coq256) (sz := 1) (j := k300) (xs := bys lo298) (v := bv (((lo298)[k300]'hb320) + (1 : UInt8))) En328 (by kernel_rfl) Hv309 rfl had326 (by rw [bys_length]; omega) (by kernel_rfl) rfl ?_
                intro ac329 wo330  En331 Hv332
                rw [bys_set] at Hv332
                refine from_end (by kernel_rfl) ?_
                refine block_normal ?_
                refine then_normal ?_
                refine region_from ?_  -- region 35
                refine d_pures [(0, .slice a_x (List.length x) c_x), (1, .slice a_l (List.length l) c_l), (6, .slice ao19 (List.length x) cp20), (7, .pointer (some ⟨bq31, 0, none⟩)), (8, .pointer (some ⟨bq42, 0, none⟩)), (9, .int .i64 ((k55 : Nat) : Int)), (10, .int .i64 ((j : Nat) : Int)), (11, .pointer (some ⟨bk127, 0, none⟩)), (12, .slice ao146 (List.length x124c) cp147), (14, .slice aoq256 (List.length loq256) coq256), (16, .int .i64 ((k300 : Nat) : Int)), (60, .int .i64 (x124a % (2 ^ 2 : Int))), (123, .int .i64 (IntKind.wrap .i64 (((k300 : Nat) : Int) + (1 : Int))))] [.int .i64 ((k300 : Nat) : Int), .int .i64 (IntKind.wrap .i64 (((k300 : Nat) : Int) + (1 : Int)))] 2 En331 (by kernel_rfl) (by kernel_rfl) rfl ?_
                intro ac333 En334
                rw [Go.Dbr.wr64 (e := ((k300 : Nat) : Int) + (1 : Int)) (x := ((k300 + 1 : Nat) : Int)) (by omega) (by omega) (by omega)] at En334
                refine d_pures [(0, .slice a_x (List.length x) c_x), (1, .slice a_l (List.length l) c_l), (6, .slice ao19 (List.length x) cp20), (7, .pointer (some ⟨bq31, 0, none⟩)), (8, .pointer (some ⟨bq42, 0, none⟩)), (9, .int .i64 ((k55 : Nat) : Int)), (10, .int .i64 ((j : Nat) : Int)), (11, .pointer (some ⟨bk127, 0, none⟩)), (12, .slice ao146 (List.length x124c) cp147), (14, .slice aoq256 (List.length loq256) coq256), (16, .int .i64 ((k300 + 1 : Nat) : Int)), (60, .int .i64 (x124a % (2 ^ 2 : Int)))] [.int .i64 ((k300 + 1 : Nat) : Int)] 3 En334 (by kernel_rfl) (by kernel_rfl) rfl ?_
                intro ac335 En336
                refine from_end (by kernel_rfl) ?_
                refine then_normal ?_
                refine ⟨_, ⟨k300 + 1, List.set lo298 k300 (((lo298)[k300]'hb320) + (1 : UInt8)), rfl, En336.sub (by kernel_rfl), Hv332.pick [0, 1, 2, 3, 4, 5, 6, 7, 8, 9, 10, 11, 12, 13, 14, 15, 16, 17, 18, 19] (by kernel_rfl) (by decide), by simp [hl301], by first | omega | (simp; omega)⟩, ?_⟩
                first | omega | (simp; omega)
              ·
                replace hc313 : ¬ (((k300 : Nat) : Int) < ((List.length loq256 : Nat) : Int)) := of_decide_eq_false hc313
                refine wp_exit ?_
                refine then_exit ?_
                refine then_exit ?_
                refine block_exit ?_
                have feq256 := (f_q256.trans (f_q275).symm)
                simp only [Rel.mk.injEq] at feq256
                obtain ⟨rfl, rfl, rfl, rfl, rfl, rfl, rfl, rfl, rfl, rfl, rfl⟩ := feq256
                have k1 : Rel.ok (⟨luq256, ldq256, lhq256, lpq256, lqq256, fcq256, feq256, lrq256, lvq256, bcq256, beq256⟩ : Rel) := by rw [f_q256]; exact Rel.ok_read hok _ _
                have k2 : Rel.size (⟨luq256, ldq256, lhq256, lpq256, lqq256, fcq256, feq256, lrq256, lvq256, bcq256, beq256⟩ : Rel) ≤ List.length x + ((List.map (fun x : (Int) × (Int) × (Sl UInt8) × (Int) × Unit => (0 + (0 + (List.length x.2.2.1.l + (0 + (0))))) + 1) (List.take j l)).sum + (fun x : (Int) × (Int) × (Sl UInt8) × (Int) × Unit => (0 + (0 + (List.length x.2.2.1.l + (0 + (0))))) + 1) (⟨x124a, x124b, ⟨a_x124c, c_x124c, x124c⟩, x124d, ()⟩ : (Int) × (Int) × (Sl UInt8) × (Int) × Unit)) := by rw [f_q256]; have h1 := Rel.size_read (⟨lu, ld, lh, lp, lq, fc, fe, lr, lv, bc, be⟩ : Rel) x124b x124d; have h2 := hsz; simp only at h1 h2 ⊢; omega
                have k3 := Rel.sizes k1 (Nat.le_trans k2 (Nat.le_trans (Nat.add_le_add_left (sum_step _ hx123) _) hB))
                exact ⟨rfl, ⟨auq256, adq256, ahq256, apq256, aqq256, arq256, avq256, cuq256, cdq256, chq256, cpq256, cqq256, crq256, cvq256, auq275, adq275, ahq275, apq275, aqq275, arq275, avq275, cuq275, cdq275, chq275, cpq275, cqq275, crq275, cvq275, luq256, ldq256, lhq256, lpq256, lqq256, lrq256, lvq256, fcq256, feq256, bcq256, beq256, En312.sub (by kernel_rfl), Hv309.pick [10, 11, 12, 13, 14, 15, 16, 17, 1, 2, 3, 4, 5, 6, 7, 8] (by kernel_rfl) (by decide), k1, k2, k3⟩⟩
            ·
              replace hc247 : ¬ (x124a % (2 ^ 2 : Int) = (2 : Int)) := ne_of_beq_false hc247
              refine wp_seq ?_
              refine region_from ?_  -- region 17
              refine d_pures [(0, .slice a_x (List.length x) c_x), (1, .slice a_l (List.length l) c_l), (6, .slice ao19 (List.length x) cp20), (7, .pointer (some ⟨bq31, 0, none⟩)), (8, .pointer (some ⟨bq42, 0, none⟩)), (9, .int .i64 ((k55 : Nat) : Int)), (10, .int .i64 ((j : Nat) : Int)), (11, .pointer (some ⟨bk127, 0, none⟩)), (12, .slice ao146 (List.length x124c) cp147), (60, .int .i64 (x124a % (2 ^ 2 : Int))), (61, .pointer (some ⟨bk127, 3, none⟩))] [.pointer (some ⟨bk127, 3, none⟩)] 1 En246 (by kernel_rfl) (by kernel_rfl) rfl ?_
              intro ac337 En338
              refine from_op (by kernel_rfl) ?_
              refine op_loadbox (d := some 62) (t := 3) (b := bk127) (off := 3) (k := 16) (v := .int .i64 x124d) En338 (by kernel_rfl) Hv170 rfl rfl (by kernel_rfl) ?_
              intro ac339 En340
              refine d_pures [(0, .slice a_x (List.length x) c_x), (1, .slice a_l (List.length l) c_l), (6, .slice ao19 (List.length x) cp20), (7, .pointer (some ⟨bq31, 0, none⟩)), (8, .pointer (some ⟨bq42, 0, none⟩)), (9, .int .i64 ((k55 : Nat) : Int)), (10, .int .i64 ((j : Nat) : Int)), (11, .pointer (some ⟨bk127, 0, none⟩)), (12, .slice ao146 (List.length x124c) cp147), (60, .int .i64 (x124a % (2 ^ 2 : Int))), (63, .int .i64 (IntKind.wrap .i64 ((BitVec.ofInt (IntKind.bits .i64) x124d &&& BitVec.ofInt (IntKind.bits .i64) (1 : Int)).toNat : Int)))] [.int .i64 (IntKind.wrap .i64 ((BitVec.ofInt (IntKind.bits .i64) x124d &&& BitVec.ofInt (IntKind.bits .i64) (1 : Int)).toNat : Int))] 3 En340 (by kernel_rfl) (by kernel_rfl) rfl ?_
              intro ac341 En342
              rw [Go.Dbr.i64_mask x124d 1 1 (mi := 1) rfl (by decide) (by decide)] at En342
              refine d_pures [(0, .slice a_x (List.length x) c_x), (1, .slice a_l (List.length l) c_l), (6, .slice ao19 (List.length x) cp20), (7, .pointer (some ⟨bq31, 0, none⟩)), (8, .pointer (some ⟨bq42, 0, none⟩)), (9, .int .i64 ((k55 : Nat) : Int)), (10, .int .i64 ((j : Nat) : Int)), (11, .pointer (some ⟨bk127, 0, none⟩)), (12, .slice ao146 (List.length x124c) cp147), (60, .int .i64 (x124a % (2 ^ 2 : Int))), (64, .bool (x124d % (2 ^ 1 : Int) == (1 : Int)))] [.bool (x124d % (2 ^ 1 : Int) == (1 : Int))] 4 En342 (by kernel_rfl) (by kernel_rfl) rfl ?_
              intro ac343 En344
              refine from_end (by kernel_rfl) ?_
              refine then_normal ?_
              refine cond_at En344 (t := x124d % (2 ^ 1 : Int) == (1 : Int)) (by kernel_rfl) (fun hc345 => ?_) (fun hc345 => ?_)
              ·
                replace hc345 : x124d % (2 ^ 1 : Int) = (1 : Int) := eq_of_beq hc345
                refine wp_seq ?_
                refine region_from ?_  -- region 18
                refine d_pures [(0, .slice a_x (List.length x) c_x), (1, .slice a_l (List.length l) c_l), (6, .slice ao19 (List.length x) cp20), (7, .pointer (some ⟨bq31, 0, none⟩)), (8, .pointer (some ⟨bq42, 0, none⟩)), (9, .int .i64 ((k55 : Nat) : Int)), (10, .int .i64 ((j : Nat) : Int)), (11, .pointer (some ⟨bk127, 0, none⟩)), (12, .slice ao146 (List.length x124c) cp147), (60, .int .i64 (x124a % (2 ^ 2 : Int))), (65, .pointer (some ⟨bq31, 0, none⟩)), (66, .pointer (some ⟨bk127, 1, none⟩))] [.pointer (some ⟨bq31, 0, none⟩), .pointer (some ⟨bk127, 1, none⟩)] 2 En344 (by kernel_rfl) (by kernel_rfl) rfl ?_
                intro ac346 En347
                refine from_op (by kernel_rfl) ?_
                refine op_loadbox (d := some 67) (t := 44) (b := bk127) (off := 1) (k := 16) (v := .int .i64 x124b) En347 (by kernel_rfl) Hv170 rfl rfl (by kernel_rfl) ?_
                intro ac348 En349
                refine from_op (by kernel_rfl) ?_
                have hS351 : List.length lu + List.length ld + List.length lh + List.length lp + List.length lq + List.length lr + List.length lv ≤ 3145728 := Rel.sizes hok (Nat.le_trans hsz (Nat.le_trans (Nat.add_le_add_left (sum_take_le _ l j) _) hB))
                have hq352 : List.length x124c ≤ 1048576 := by have h := Nat.le_trans (sum_step (fun x : (Int) × (Int) × (Sl UInt8) × (Int) × Unit => (0 + (0 + (List.length x.2.2.1.l + (0 + (0))))) + 1) hx123) (Nat.le_trans (Nat.le_add_left _ _) hB); simp only at h; omega
                have hM353 : Heap wo168 [.box bq31 [.slice aux (List.length lu) cux, .bool fc, .slice adx (List.length ld) cdx, .bool bc, .slice ahx (List.length lh) chx, .slice apx (List.length lp) cpx, .slice aqx (List.length lq) cqx, .bool fc, .bool fe, .slice arx (List.length lr) crx, .slice avx (List.length lv) cvx, .bool bc, .bool be] 66, .vec aux cux 1 (bys lu) 5, .vec adx cdx 1 (bys ld) 5, .vec ahx chx 1 (bys lh) 5, .vec apx cpx 1 (bys lp) 5, .vec aqx cqx 1 (bys lq) 5, .vec arx crx 1 (bys lr) 5, .vec avx cvx 1 (bys lv) 5] := Hv170.heap.pick [0, 1, 2, 3, 4, 5, 6, 7] (by kernel_rfl) (by decide)
                refine op_call (d := some 68) (f := 23) (args := #[.pointer (some ⟨bq31, 0, none⟩), .int .i64 x124b]) En349 (by kernel_rfl) ((xclose _ bq31 aux adx ahx apx aqx arx avx cux cdx chx cpx cqx crx cvx lu ld lh lp lq lr lv fc fe bc be x124b hM353 (by omega)).mono ?_)
                rintro _ wo355 ⟨auq350, adq350, ahq350, apq350, aqq350, arq350, avq350, cuq350, cdq350, chq350, cpq350, cqq350, crq350, cvq350, luq350, ldq350, lhq350, lpq350, lqq350, lrq350, lvq350, fcq350, feq350, bcq350, beq350, rfl, he358, f_q350⟩
                refine ⟨_, rfl, ?_⟩
                intro ac354 En356
                have Hv357 : Ev w [] wo355 [.box bq31 [.slice auq350 (List.length luq350) cuq350, .bool fcq350, .slice adq350 (List.length ldq350) cdq350, .bool bcq350, .slice ahq350 (List.length lhq350) chq350, .slice apq350 (List.length lpq350) cpq350, .slice aqq350 (List.length lqq350) cqq350, .bool fcq350, .bool feq350, .slice arq350 (List.length lrq350) crq350, .slice avq350 (List.length lvq350) cvq350, .bool bcq350, .bool beq350] 66, .vec auq350 cuq350 1 (bys luq350) 5, .vec adq350 cdq350 1 (bys ldq350) 5, .vec ahq350 chq350 1 (bys lhq350) 5, .vec apq350 cpq350 1 (bys lpq350) 5, .vec aqq350 cqq350 1 (bys lqq350) 5, .vec arq350 crq350 1 (bys lrq350) 5, .vec avq350 cvq350 1 (bys lvq350) 5, .box bq42 [.slice auy (List.length lu) cuy, .slice ady (List.length ld) cdy, .slice ahy (List.length lh) chy, .slice apy (List.length lp) cpy, .slice aqy (List.length lq) cqy, .bool fc, .bool fe, .slice ary (List.length lr) cry, .slice avy (List.length lv) cvy, .bool bc, .bool be] 53, .vec auy cuy 1 (bys lu) 5, .vec ady cdy 1 (bys ld) 5, .vec ahy chy 1 (bys lh) 5, .vec apy cpy 1 (bys lp) 5, .vec aqy cqy 1 (bys lq) 5, .vec ary cry 1 (bys lr) 5, .vec avy cvy 1 (bys lv) 5, .box bk127 [.int .i64 x124a, .int .i64 x124b, .slice a_x124c (List.length x124c) c_x124c, .int .i64 x124d] 46, .vec ao146 cp147 1 (bys x124c) 5] := Hv170.trans (Ev.call (R := [.box bq42 [.slice auy (List.length lu) cuy, .slice ady (List.length ld) cdy, .slice ahy (List.length lh) chy, .slice apy (List.length lp) cpy, .slice aqy (List.length lq) cqy, .bool fc, .bool fe, .slice ary (List.length lr) cry, .slice avy (List.length lv) cvy, .bool bc, .bool be] 53, .vec auy cuy 1 (bys lu) 5, .vec ady cdy 1 (bys ld) 5, .vec ahy chy 1 (bys lh) 5, .vec apy cpy 1 (bys lp) 5, .vec aqy cqy 1 (bys lq) 5, .vec ary cry 1 (bys lr) 5, .vec avy cvy 1 (bys lv) 5, .box bk127 [.int .i64 x124a, .int .i64 x124b, .slice a_x124c (List.length x124c) c_x124c, .int .i64 x124d] 46, .vec ao146 cp147 1 (bys x124c) 5]) Hv170.heap [0, 1, 2, 3, 4, 5, 6, 7, 8, 9, 10, 11, 12, 13, 14, 15, 16, 17] (by kernel_rfl) (by decide) he358)
                clear hM353 he358
                refine from_end (by kernel_rfl) ?_
                refine then_normal ?_
                refine region_from ?_  -- region 19
                refine d_pures [(0, .slice a_x (List.length x) c_x), (1, .slice a_l (List.length l) c_l), (6, .slice ao19 (List.length x) cp20), (7, .pointer (some ⟨bq31, 0, none⟩)), (8, .pointer (some ⟨bq42, 0, none⟩)), (9, .int .i64 ((k55 : Nat) : Int)), (10, .int .i64 ((j : Nat) : Int)), (11, .pointer (some ⟨bk127, 0, none⟩)), (12, .slice ao146 (List.length x124c) cp147), (60, .int .i64 (x124a % (2 ^ 2 : Int))), (69, .pointer (some ⟨bq42, 0, none⟩)), (70, .pointer (some ⟨bk127, 1, none⟩))] [.pointer (some ⟨bq42, 0, none⟩), .pointer (some ⟨bk127, 1, none⟩)] 2 En356 (by kernel_rfl) (by kernel_rfl) rfl ?_
                intro ac359 En360
                refine from_op (by kernel_rfl) ?_
                refine op_loadbox (d := some 71) (t := 44) (b := bk127) (off := 1) (k := 16) (v := .int .i64 x124b) En360 (by kernel_rfl) Hv357 rfl rfl (by kernel_rfl) ?_
                intro ac361 En362
                refine from_op (by kernel_rfl) ?_
                have hS364 : List.length lu + List.length ld + List.length lh + List.length lp + List.length lq + List.length lr + List.length lv ≤ 3145728 := Rel.sizes hok (Nat.le_trans hsz (Nat.le_trans (Nat.add_le_add_left (sum_take_le _ l j) _) hB))
                have hq365 : List.length x124c ≤ 1048576 := by have h := Nat.le_trans (sum_step (fun x : (Int) × (Int) × (Sl UInt8) × (Int) × Unit => (0 + (0 + (List.length x.2.2.1.l + (0 + (0))))) + 1) hx123) (Nat.le_trans (Nat.le_add_left _ _) hB); simp only at h; omega
                have hM366 : Heap wo355 [.box bq42 [.slice auy (List.length lu) cuy, .slice ady (List.length ld) cdy, .slice ahy (List.length lh) chy, .slice apy (List.length lp) cpy, .slice aqy (List.length lq) cqy, .bool fc, .bool fe, .slice ary (List.length lr) cry, .slice avy (List.length lv) cvy, .bool bc, .bool be] 53, .vec auy cuy 1 (bys lu) 5, .vec ady cdy 1 (bys ld) 5, .vec ahy chy 1 (bys lh) 5, .vec apy cpy 1 (bys lp) 5, .vec aqy cqy 1 (bys lq) 5, .vec ary cry 1 (bys lr) 5, .vec avy cvy 1 (bys lv) 5] := Hv357.heap.pick [8, 9, 10, 11, 12, 13, 14, 15] (by kernel_rfl) (by decide)
                refine op_call (d := some 72) (f := 24) (args := #[.pointer (some ⟨bq42, 0, none⟩), .int .i64 x124b]) En362 (by kernel_rfl) ((yclose _ bq42 auy ady ahy apy aqy ary avy cuy cdy chy cpy cqy cry cvy lu ld lh lp lq lr lv fc fe bc be x124b hM366 (by omega)).mono ?_)
                rintro _ wo368 ⟨auq363, adq363, ahq363, apq363, aqq363, arq363, avq363, cuq363, cdq363, chq363, cpq363, cqq363, crq363, cvq363, luq363, ldq363, lhq363, lpq363, lqq363, lrq363, lvq363, fcq363, feq363, bcq363, beq363, rfl, he371, f_q363⟩
                refine ⟨_, rfl, ?_⟩
                intro ac367 En369
                have Hv370 : Ev w [] wo368 [.box bq42 [.slice auq363 (List.length luq363) cuq363, .slice adq363 (List.length ldq363) cdq363, .slice ahq363 (List.length lhq363) chq363, .slice apq363 (List.length lpq363) cpq363, .slice aqq363 (List.length lqq363) cqq363, .bool fcq363, .bool feq363, .slice arq363 (List.length lrq363) crq363, .slice avq363 (List.length lvq363) cvq363, .bool bcq363, .bool beq363] 53, .vec auq363 cuq363 1 (bys luq363) 5, .vec adq363 cdq363 1 (bys ldq363) 5, .vec ahq363 chq363 1 (bys lhq363) 5, .vec apq363 cpq363 1 (bys lpq363) 5, .vec aqq363 cqq363 1 (bys lqq363) 5, .vec arq363 crq363 1 (bys lrq363) 5, .vec avq363 cvq363 1 (bys lvq363) 5, .box bq31 [.slice auq350 (List.length luq350) cuq350, .bool fcq350, .slice adq350 (List.length ldq350) cdq350, .bool bcq350, .slice ahq350 (List.length lhq350) chq350, .slice apq350 (List.length lpq350) cpq350, .slice aqq350 (List.length lqq350) cqq350, .bool fcq350, .bool feq350, .slice arq350 (List.length lrq350) crq350, .slice avq350 (List.length lvq350) cvq350, .bool bcq350, .bool beq350] 66, .vec auq350 cuq350 1 (bys luq350) 5, .vec adq350 cdq350 1 (bys ldq350) 5, .vec ahq350 chq350 1 (bys lhq350) 5, .vec apq350 cpq350 1 (bys lpq350) 5, .vec aqq350 cqq350 1 (bys lqq350) 5, .vec arq350 crq350 1 (bys lrq350) 5, .vec avq350 cvq350 1 (bys lvq350) 5, .box bk127 [.int .i64 x124a, .int .i64 x124b, .slice a_x124c (List.length x124c) c_x124c, .int .i64 x124d] 46, .vec ao146 cp147 1 (bys x124c) 5] := Hv357.trans (Ev.call (R := [.box bq31 [.slice auq350 (List.length luq350) cuq350, .bool fcq350, .slice adq350 (List.length ldq350) cdq350, .bool bcq350, .slice ahq350 (List.length lhq350) chq350, .slice apq350 (List.length lpq350) cpq350, .slice aqq350 (List.length lqq350) cqq350, .bool fcq350, .bool feq350, .slice arq350 (List.length lrq350) crq350, .slice avq350 (List.length lvq350) cvq350, .bool bcq350, .bool beq350] 66, .vec auq350 cuq350 1 (bys luq350) 5, .vec adq350 cdq350 1 (bys ldq350) 5, .vec ahq350 chq350 1 (bys lhq350) 5, .vec apq350 cpq350 1 (bys lpq350) 5, .vec aqq350 cqq350 1 (bys lqq350) 5, .vec arq350 crq350 1 (bys lrq350) 5, .vec avq350 cvq350 1 (bys lvq350) 5, .box bk127 [.int .i64 x124a, .int .i64 x124b, .slice a_x124c (List.length x124c) c_x124c, .int .i64 x124d] 46, .vec ao146 cp147 1 (bys x124c) 5]) Hv357.heap [8, 9, 10, 11, 12, 13, 14, 15, 0, 1, 2, 3, 4, 5, 6, 7, 16, 17] (by kernel_rfl) (by decide) he371)
                clear hM366 he371
                refine from_end (by kernel_rfl) ?_
                have feq350 := (f_q350.trans (f_q363).symm)
                simp only [Rel.mk.injEq] at feq350
                obtain ⟨rfl, rfl, rfl, rfl, rfl, rfl, rfl, rfl, rfl, rfl, rfl⟩ := feq350
                have k1 : Rel.ok (⟨luq350, ldq350, lhq350, lpq350, lqq350, fcq350, feq350, lrq350, lvq350, bcq350, beq350⟩ : Rel) := by rw [f_q350]; exact Rel.ok_close hok _
                have k2 : Rel.size (⟨luq350, ldq350, lhq350, lpq350, lqq350, fcq350, feq350, lrq350, lvq350, bcq350, beq350⟩ : Rel) ≤ List.length x + ((List.map (fun x : (Int) × (Int) × (Sl UInt8) × (Int) × Unit => (0 + (0 + (List.length x.2.2.1.l + (0 + (0))))) + 1) (List.take j l)).sum + (fun x : (Int) × (Int) × (Sl UInt8) × (Int) × Unit => (0 + (0 + (List.length x.2.2.1.l + (0 + (0))))) + 1) (⟨x124a, x124b, ⟨a_x124c, c_x124c, x124c⟩, x124d, ()⟩ : (Int) × (Int) × (Sl UInt8) × (Int) × Unit)) := by rw [f_q350]; have h1 := Rel.size_close (⟨lu, ld, lh, lp, lq, fc, fe, lr, lv, bc, be⟩ : Rel) x124b; have h2 := hsz; simp only at h1 h2 ⊢; omega
                have k3 := Rel.sizes k1 (Nat.le_trans k2 (Nat.le_trans (Nat.add_le_add_left (sum_step _ hx123) _) hB))
                exact ⟨rfl, ⟨auq350, adq350, ahq350, apq350, aqq350, arq350, avq350, cuq350, cdq350, chq350, cpq350, cqq350, crq350, cvq350, auq363, adq363, ahq363, apq363, aqq363, arq363, avq363, cuq363, cdq363, chq363, cpq363, cqq363, crq363, cvq363, luq350, ldq350, lhq350, lpq350, lqq350, lrq350, lvq350, fcq350, feq350, bcq350, beq350, En369.sub (by kernel_rfl), Hv370.pick [8, 9, 10, 11, 12, 13, 14, 15, 0, 1, 2, 3, 4, 5, 6, 7] (by kernel_rfl) (by decide), k1, k2, k3⟩⟩
              ·
                replace hc345 : ¬ (x124d % (2 ^ 1 : Int) = (1 : Int)) := ne_of_beq_false hc345
                refine wp_skip ?_
                have k1 : Rel.ok (⟨lu, ld, lh, lp, lq, fc, fe, lr, lv, bc, be⟩ : Rel) := hok
                have k2 : Rel.size (⟨lu, ld, lh, lp, lq, fc, fe, lr, lv, bc, be⟩ : Rel) ≤ List.length x + ((List.map (fun x : (Int) × (Int) × (Sl UInt8) × (Int) × Unit => (0 + (0 + (List.length x.2.2.1.l + (0 + (0))))) + 1) (List.take j l)).sum + (fun x : (Int) × (Int) × (Sl UInt8) × (Int) × Unit => (0 + (0 + (List.length x.2.2.1.l + (0 + (0))))) + 1) (⟨x124a, x124b, ⟨a_x124c, c_x124c, x124c⟩, x124d, ()⟩ : (Int) × (Int) × (Sl UInt8) × (Int) × Unit)) := by have h2 := hsz; simp only at h2 ⊢; omega
                have k3 := Rel.sizes k1 (Nat.le_trans k2 (Nat.le_trans (Nat.add_le_add_left (sum_step _ hx123) _) hB))
                exact ⟨rfl, ⟨aux, adx, ahx, apx, aqx, arx, avx, cux, cdx, chx, cpx, cqx, crx, cvx, auy, ady, ahy, apy, aqy, ary, avy, cuy, cdy, chy, cpy, cqy, cry, cvy, lu, ld, lh, lp, lq, lr, lv, fc, fe, bc, be, En344.sub (by kernel_rfl), Hv170.pick [0, 1, 2, 3, 4, 5, 6, 7, 8, 9, 10, 11, 12, 13, 14, 15] (by kernel_rfl) (by decide), k1, k2, k3⟩⟩
        ·
          rintro ac372 wo373 ⟨aux2, adx2, ahx2, apx2, aqx2, arx2, avx2, cux2, cdx2, chx2, cpx2, cqx2, crx2, cvx2, auy2, ady2, ahy2, apy2, aqy2, ary2, avy2, cuy2, cdy2, chy2, cpy2, cqy2, cry2, cvy2, lu2, ld2, lh2, lp2, lq2, lr2, lv2, fc2, fe2, bc2, be2, En374, Hv375, hok2, hsz2, hS2⟩
          refine block_normal ?_
          refine then_normal ?_
          refine wp_seq ?_
          refine region_cut (F := fun ac wo => Env ac 145 [(0, .slice a_x (List.length x) c_x), (1, .slice a_l (List.length l) c_l), (6, .slice ao19 (List.length x) cp20), (7, .pointer (some ⟨bq31, 0, none⟩)), (8, .pointer (some ⟨bq42, 0, none⟩)), (9, .int .i64 ((k55 : Nat) : Int)), (10, .int .i64 ((j : Nat) : Int)), (11, .pointer (some ⟨bk127, 0, none⟩)), (12, .slice ao146 (List.length x124c) cp147), (17, .bool true), (60, .int .i64 (x124a % (2 ^ 2 : Int)))] ∧ Ev w [] wo [.box bq31 [.slice aux2 (List.length lu2) cux2, .bool fc2, .slice adx2 (List.length ld2) cdx2, .bool bc2, .slice ahx2 (List.length lh2) chx2, .slice apx2 (List.length lp2) cpx2, .slice aqx2 (List.length lq2) cqx2, .bool fc2, .bool fe2, .slice arx2 (List.length lr2) crx2, .slice avx2 (List.length lv2) cvx2, .bool bc2, .bool be2] 66, .vec ahx2 chx2 1 (bys lh2) 5, .vec apx2 cpx2 1 (bys lp2) 5, .vec aqx2 cqx2 1 (bys lq2) 5, .vec arx2 crx2 1 (bys lr2) 5, .vec avx2 cvx2 1 (bys lv2) 5, .vec aux2 cux2 1 (bys lu2) 5, .vec adx2 cdx2 1 (bys ld2) 5, .box bq42 [.slice auy2 (List.length lu2) cuy2, .slice ady2 (List.length ld2) cdy2, .slice ahy2 (List.length lh2) chy2, .slice apy2 (List.length lp2) cpy2, .slice aqy2 (List.length lq2) cqy2, .bool fc2, .bool fe2, .slice ary2 (List.length lr2) cry2, .slice avy2 (List.length lv2) cvy2, .bool bc2, .bool be2] 53, .vec auy2 cuy2 1 (bys lu2) 5, .vec ady2 cdy2 1 (bys ld2) 5, .vec ahy2 chy2 1 (bys lh2) 5, .vec apy2 cpy2 1 (bys lp2) 5, .vec aqy2 cqy2 1 (bys lq2) 5, .vec ary2 cry2 1 (bys lr2) 5, .vec avy2 cvy2 1 (bys lv2) 5]) ?_ ?_
          ·
            refine draw_any (by kernel_rfl) 8 (by kernel_rfl) ?_  -- region 37
            have wo376 := Hv375.trans (Ev.drew Hv375.heap)
            refine any_name fun G hG => ?_
            have nd419 : ∀ (ac : Act) (wo : World) (nhq385 : _) (npq385 : _) (nqq385 : _) (nrq385 : _) (nvq385 : _) (mhq385 : _) (mpq385 : _) (mqq385 : _) (mrq385 : _) (mvq385 : _), Env ac 145 [(0, .slice a_x (List.length x) c_x), (1, .slice a_l (List.length l) c_l), (6, .slice ao19 (List.length x) cp20), (7, .pointer (some ⟨bq31, 0, none⟩)), (8, .pointer (some ⟨bq42, 0, none⟩)), (9, .int .i64 ((k55 : Nat) : Int)), (10, .int .i64 ((j : Nat) : Int)), (11, .pointer (some ⟨bk127, 0, none⟩)), (12, .slice ao146 (List.length x124c) cp147), (60, .int .i64 (x124a % (2 ^ 2 : Int))), (131, .agg #[.slice nhq385 (List.length lh2) mhq385, .slice npq385 (List.length lp2) mpq385, .slice nqq385 (List.length lq2) mqq385, .bool fc2, .bool fe2, .slice nrq385 (List.length lr2) mrq385, .slice nvq385 (List.length lv2) mvq385, .bool bc2, .bool be2]), (134, .pointer (some ⟨bq42, 2, none⟩))] → Ev w [] wo [.box bq31 [.slice aux2 (List.length lu2) cux2, .bool fc2, .slice adx2 (List.length ld2) cdx2, .bool bc2, .slice ahx2 (List.length lh2) chx2, .slice apx2 (List.length lp2) cpx2, .slice aqx2 (List.length lq2) cqx2, .bool fc2, .bool fe2, .slice arx2 (List.length lr2) crx2, .slice avx2 (List.length lv2) cvx2, .bool bc2, .bool be2] 66, .vec ahx2 chx2 1 (bys lh2) 5, .vec apx2 cpx2 1 (bys lp2) 5, .vec aqx2 cqx2 1 (bys lq2) 5, .vec arx2 crx2 1 (bys lr2) 5, .vec avx2 cvx2 1 (bys lv2) 5, .vec nhq385 mhq385 1 (bys lh2) 5, .vec npq385 mpq385 1 (bys lp2) 5, .vec nqq385 mqq385 1 (bys lq2) 5, .vec nrq385 mrq385 1 (bys lr2) 5, .vec nvq385 mvq385 1 (bys lv2) 5, .vec aux2 cux2 1 (bys lu2) 5, .vec adx2 cdx2 1 (bys ld2) 5, .box bq42 [.slice auy2 (List.length lu2) cuy2, .slice ady2 (List.length ld2) cdy2, .slice ahy2 (List.length lh2) chy2, .slice apy2 (List.length lp2) cpy2, .slice aqy2 (List.length lq2) cqy2, .bool fc2, .bool fe2, .slice ary2 (List.length lr2) cry2, .slice avy2 (List.length lv2) cvy2, .bool bc2, .bool be2] 53, .vec auy2 cuy2 1 (bys lu2) 5, .vec ady2 cdy2 1 (bys ld2) 5, .vec ahy2 chy2 1 (bys lh2) 5, .vec apy2 cpy2 1 (bys lp2) 5, .vec aqy2 cqy2 1 (bys lq2) 5, .vec ary2 cry2 1 (bys lr2) 5, .vec avy2 cvy2 1 (bys lv2) 5] → G 3 #[true, true, true, true, true, false, false, false] ac wo := by
              intro ac420 wo421 nhq385 npq385 nqq385 nrq385 nvq385 mhq385 mpq385 mqq385 mrq385 mvq385 En422 Hv423
              refine any_from hG ?_
              refine any_at 5 (by kernel_rfl) rfl ?_
              refine op_loadaggbox (d := some 135) (t := 26) (b := bq42) (off := 2) (k := 13) (m := 9) (xs := [.slice ahy2 (List.length lh2) chy2, .slice apy2 (List.length lp2) cpy2, .slice aqy2 (List.length lq2) cqy2, .bool fc2, .bool fe2, .slice ary2 (List.length lr2) cry2, .slice avy2 (List.length lv2) cvy2, .bool bc2, .bool be2]) En422 (by kernel_rfl) Hv423 rfl rfl rfl (by kernel_rfl) (by kernel_rfl) ?_
              intro ac424 En425
              refine any_at 6 (by kernel_rfl) rfl ?_
              have hM426 : Heap wo421 [] := Hv423.heap.pick [] (by kernel_rfl) (by decide)
              refine op_call (d := some 136) (f := 25) (args := #[.agg #[.slice nhq385 (List.length lh2) mhq385, .slice npq385 (List.length lp2) mpq385, .slice nqq385 (List.length lq2) mqq385, .bool fc2, .bool fe2, .slice nrq385 (List.length lr2) mrq385, .slice nvq385 (List.length lv2) mvq385, .bool bc2, .bool be2], .agg #[.slice ahy2 (List.length lh2) chy2, .slice apy2 (List.length lp2) cpy2, .slice aqy2 (List.length lq2) cqy2, .bool fc2, .bool fe2, .slice ary2 (List.length lr2) cry2, .slice avy2 (List.length lv2) cvy2, .bool bc2, .bool be2]]) En425 (by kernel_rfl) ((same_ref _ nhq385 (List.length lh2) mhq385 lh2 (by first | rfl | (simp; done) | (simp; omega) | omega) (bys_in Hv423.heap (k := 6) rfl [] (by kernel_rfl) rfl (by first | omega | (simp; done) | (simp; omega))) npq385 (List.length lp2) mpq385 lp2 (by first | rfl | (simp; done) | (simp; omega) | omega) (bys_in Hv423.heap (k := 7) rfl [] (by kernel_rfl) rfl (by first | omega | (simp; done) | (simp; omega))) nqq385 (List.length lq2) mqq385 lq2 (by first | rfl | (simp; done) | (simp; omega) | omega) (bys_in Hv423.heap (k := 8) rfl [] (by kernel_rfl) rfl (by first | omega | (simp; done) | (simp; omega))) fc2 fe2 nrq385 (List.length lr2) mrq385 lr2 (by first | rfl | (simp; done) | (simp; omega) | omega) (bys_in Hv423.heap (k := 9) rfl [] (by kernel_rfl) rfl (by first | omega | (simp; done) | (simp; omega))) nvq385 (List.length lv2) mvq385 lv2 (by first | rfl | (simp; done) | (simp; omega) | omega) (bys_in Hv423.heap (k := 10) rfl [] (by kernel_rfl) rfl (by first | omega | (simp; done) | (simp; omega))) bc2 be2 ahy2 (List.length lh2) chy2 lh2 (by first | rfl | (simp; done) | (simp; omega) | omega) (bys_in Hv423.heap (k := 16) rfl [] (by kernel_rfl) rfl (by first | omega | (simp; done) | (simp; omega))) apy2 (List.length lp2) cpy2 lp2 (by first | rfl | (simp; done) | (simp; omega) | omega) (bys_in Hv423.heap (k := 17) rfl [] (by kernel_rfl) rfl (by first | omega | (simp; done) | (simp; omega))) aqy2 (List.length lq2) cqy2 lq2 (by first | rfl | (simp; done) | (simp; omega) | omega) (bys_in Hv423.heap (k := 18) rfl [] (by kernel_rfl) rfl (by first | omega | (simp; done) | (simp; omega))) fc2 fe2 ary2 (List.length lr2) cry2 lr2 (by first | rfl | (simp; done) | (simp; omega) | omega) (bys_in Hv423.heap (k := 19) rfl [] (by kernel_rfl) rfl (by first | omega | (simp; done) | (simp; omega))) avy2 (List.length lv2) cvy2 lv2 (by first | rfl | (simp; done) | (simp; omega) | omega) (bys_in Hv423.heap (k := 20) rfl [] (by kernel_rfl) rfl (by first | omega | (simp; done) | (simp; omega))) bc2 be2).mono ?_)
              rintro _ wo428 ⟨rfl, he431⟩
              refine ⟨_, rfl, ?_⟩
              intro ac427 En429
              have Hv430 : Ev w [] wo428 [.box bq31 [.slice aux2 (List.length lu2) cux2, .bool fc2, .slice adx2 (List.length ld2) cdx2, .bool bc2, .slice ahx2 (List.length lh2) chx2, .slice apx2 (List.length lp2) cpx2, .slice aqx2 (List.length lq2) cqx2, .bool fc2, .bool fe2, .slice arx2 (List.length lr2) crx2, .slice avx2 (List.length lv2) cvx2, .bool bc2, .bool be2] 66, .vec ahx2 chx2 1 (bys lh2) 5, .vec apx2 cpx2 1 (bys lp2) 5, .vec aqx2 cqx2 1 (bys lq2) 5, .vec arx2 crx2 1 (bys lr2) 5, .vec avx2 cvx2 1 (bys lv2) 5, .vec nhq385 mhq385 1 (bys lh2) 5, .vec npq385 mpq385 1 (bys lp2) 5, .vec nqq385 mqq385 1 (bys lq2) 5, .vec nrq385 mrq385 1 (bys lr2) 5, .vec nvq385 mvq385 1 (bys lv2) 5, .vec aux2 cux2 1 (bys lu2) 5, .vec adx2 cdx2 1 (bys ld2) 5, .box bq42 [.slice auy2 (List.length lu2) cuy2, .slice ady2 (List.length ld2) cdy2, .slice ahy2 (List.length lh2) chy2, .slice apy2 (List.length lp2) cpy2, .slice aqy2 (List.length lq2) cqy2, .bool fc2, .bool fe2, .slice ary2 (List.length lr2) cry2, .slice avy2 (List.length lv2) cvy2, .bool bc2, .bool be2] 53, .vec auy2 cuy2 1 (bys lu2) 5, .vec ady2 cdy2 1 (bys ld2) 5, .vec ahy2 chy2 1 (bys lh2) 5, .vec apy2 cpy2 1 (bys lp2) 5, .vec aqy2 cqy2 1 (bys lq2) 5, .vec ary2 cry2 1 (bys lr2) 5, .vec avy2 cvy2 1 (bys lv2) 5] := Hv423.trans (Ev.call (R := [.box bq31 [.slice aux2 (List.length lu2) cux2, .bool fc2, .slice adx2 (List.length ld2) cdx2, .bool bc2, .slice ahx2 (List.length lh2) chx2, .slice apx2 (List.length lp2) cpx2, .slice aqx2 (List.length lq2) cqx2, .bool fc2, .bool fe2, .slice arx2 (List.length lr2) crx2, .slice avx2 (List.length lv2) cvx2, .bool bc2, .bool be2] 66, .vec ahx2 chx2 1 (bys lh2) 5, .vec apx2 cpx2 1 (bys lp2) 5, .vec aqx2 cqx2 1 (bys lq2) 5, .vec arx2 crx2 1 (bys lr2) 5, .vec avx2 cvx2 1 (bys lv2) 5, .vec nhq385 mhq385 1 (bys lh2) 5, .vec npq385 mpq385 1 (bys lp2) 5, .vec nqq385 mqq385 1 (bys lq2) 5, .vec nrq385 mrq385 1 (bys lr2) 5, .vec nvq385 mvq385 1 (bys lv2) 5, .vec aux2 cux2 1 (bys lu2) 5, .vec adx2 cdx2 1 (bys ld2) 5, .box bq42 [.slice auy2 (List.length lu2) cuy2, .slice ady2 (List.length ld2) cdy2, .slice ahy2 (List.length lh2) chy2, .slice apy2 (List.length lp2) cpy2, .slice aqy2 (List.length lq2) cqy2, .bool fc2, .bool fe2, .slice ary2 (List.length lr2) cry2, .slice avy2 (List.length lv2) cvy2, .bool bc2, .bool be2] 53, .vec auy2 cuy2 1 (bys lu2) 5, .vec ady2 cdy2 1 (bys ld2) 5, .vec ahy2 chy2 1 (bys lh2) 5, .vec apy2 cpy2 1 (bys lp2) 5, .vec aqy2 cqy2 1 (bys lq2) 5, .vec ary2 cry2 1 (bys lr2) 5, .vec avy2 cvy2 1 (bys lv2) 5]) Hv423.heap [0, 1, 2, 3, 4, 5, 6, 7, 8, 9, 10, 11, 12, 13, 14, 15, 16, 17, 18, 19, 20] (by kernel_rfl) (by decide) he431)
              clear hM426 he431
              refine any_pureR (d := some 17) En429 (v := .bool ((lp2 == lp2 && (lq2 == lq2 && (fc2 == fc2 && fe2 == fe2))) && ((lr2 == lr2 && (lv2 == lv2 && (bc2 == bc2 && be2 == be2))) && lh2 == lh2))) 7 (by kernel_rfl) (by kernel_rfl) rfl ?_
              intro ac432 En433
              rw [show ((lp2 == lp2 && (lq2 == lq2 && (fc2 == fc2 && fe2 == fe2))) && ((lr2 == lr2 && (lv2 == lv2 && (bc2 == bc2 && be2 == be2))) && lh2 == lh2)) = true from by simp] at En433
              exact any_end (by kernel_rfl) ⟨En433.sub (by kernel_rfl), Hv430.pick [0, 1, 2, 3, 4, 5, 11, 12, 13, 14, 15, 16, 17, 18, 19, 20] (by kernel_rfl) (by decide)⟩
            have nd434 : ∀ (ac : Act) (wo : World), Env ac 145 [(0, .slice a_x (List.length x) c_x), (1, .slice a_l (List.length l) c_l), (6, .slice ao19 (List.length x) cp20), (7, .pointer (some ⟨bq31, 0, none⟩)), (8, .pointer (some ⟨bq42, 0, none⟩)), (9, .int .i64 ((k55 : Nat) : Int)), (10, .int .i64 ((j : Nat) : Int)), (11, .pointer (some ⟨bk127, 0, none⟩)), (12, .slice ao146 (List.length x124c) cp147), (60, .int .i64 (x124a % (2 ^ 2 : Int))), (130, .pointer (some ⟨bq31, 0, none⟩)), (135, .agg #[.slice ahy2 (List.length lh2) chy2, .slice apy2 (List.length lp2) cpy2, .slice aqy2 (List.length lq2) cqy2, .bool fc2, .bool fe2, .slice ary2 (List.length lr2) cry2, .slice avy2 (List.length lv2) cvy2, .bool bc2, .bool be2])] → Ev w [] wo [.box bq31 [.slice aux2 (List.length lu2) cux2, .bool fc2, .slice adx2 (List.length ld2) cdx2, .bool bc2, .slice ahx2 (List.length lh2) chx2, .slice apx2 (List.length lp2) cpx2, .slice aqx2 (List.length lq2) cqx2, .bool fc2, .bool fe2, .slice arx2 (List.length lr2) crx2, .slice avx2 (List.length lv2) cvx2, .bool bc2, .bool be2] 66, .vec aux2 cux2 1 (bys lu2) 5, .vec adx2 cdx2 1 (bys ld2) 5, .vec ahx2 chx2 1 (bys lh2) 5, .vec apx2 cpx2 1 (bys lp2) 5, .vec aqx2 cqx2 1 (bys lq2) 5, .vec arx2 crx2 1 (bys lr2) 5, .vec avx2 cvx2 1 (bys lv2) 5, .box bq42 [.slice auy2 (List.length lu2) cuy2, .slice ady2 (List.length ld2) cdy2, .slice ahy2 (List.length lh2) chy2, .slice apy2 (List.length lp2) cpy2, .slice aqy2 (List.length lq2) cqy2, .bool fc2, .bool fe2, .slice ary2 (List.length lr2) cry2, .slice avy2 (List.length lv2) cvy2, .bool bc2, .bool be2] 53, .vec auy2 cuy2 1 (bys lu2) 5, .vec ady2 cdy2 1 (bys ld2) 5, .vec ahy2 chy2 1 (bys lh2) 5, .vec apy2 cpy2 1 (bys lp2) 5, .vec aqy2 cqy2 1 (bys lq2) 5, .vec ary2 cry2 1 (bys lr2) 5, .vec avy2 cvy2 1 (bys lv2) 5] → G 3 #[true, false, true, true, true, true, false, false] ac wo := by
              intro ac435 wo436 En437 Hv438
              refine any_from hG ?_
              refine any_at 1 (by kernel_rfl) rfl ?_
              have hM440 : Heap wo436 [.box bq31 [.slice aux2 (List.length lu2) cux2, .bool fc2, .slice adx2 (List.length ld2) cdx2, .bool bc2, .slice ahx2 (List.length lh2) chx2, .slice apx2 (List.length lp2) cpx2, .slice aqx2 (List.length lq2) cqx2, .bool fc2, .bool fe2, .slice arx2 (List.length lr2) crx2, .slice avx2 (List.length lv2) cvx2, .bool bc2, .bool be2] 66, .vec ahx2 chx2 1 (bys lh2) 5, .vec apx2 cpx2 1 (bys lp2) 5, .vec aqx2 cqx2 1 (bys lq2) 5, .vec arx2 crx2 1 (bys lr2) 5, .vec avx2 cvx2 1 (bys lv2) 5] := Hv438.heap.pick [0, 3, 4, 5, 6, 7] (by kernel_rfl) (by decide)
              refine op_call (d := some 131) (f := 26) (args := #[.pointer (some ⟨bq31, 0, none⟩)]) En437 (by kernel_rfl) ((story_go _ bq31 aux2 adx2 ahx2 apx2 aqx2 arx2 avx2 cux2 cdx2 chx2 cpx2 cqx2 crx2 cvx2 lu2 ld2 lh2 lp2 lq2 lr2 lv2 fc2 fe2 bc2 be2 hM440 (by omega)).mono ?_)
              rintro _ wo442 ⟨nhq439, npq439, nqq439, nrq439, nvq439, mhq439, mpq439, mqq439, mrq439, mvq439, rfl, he445⟩
              refine ⟨_, rfl, ?_⟩
              intro ac441 En443
              have Hv444 : Ev w [] wo442 [.box bq31 [.slice aux2 (List.length lu2) cux2, .bool fc2, .slice adx2 (List.length ld2) cdx2, .bool bc2, .slice ahx2 (List.length lh2) chx2, .slice apx2 (List.length lp2) cpx2, .slice aqx2 (List.length lq2) cqx2, .bool fc2, .bool fe2, .slice arx2 (List.length lr2) crx2, .slice avx2 (List.length lv2) cvx2, .bool bc2, .bool be2] 66, .vec ahx2 chx2 1 (bys lh2) 5, .vec apx2 cpx2 1 (bys lp2) 5, .vec aqx2 cqx2 1 (bys lq2) 5, .vec arx2 crx2 1 (bys lr2) 5, .vec avx2 cvx2 1 (bys lv2) 5, .vec nhq439 mhq439 1 (bys lh2) 5, .vec npq439 mpq439 1 (bys lp2) 5, .vec nqq439 mqq439 1 (bys lq2) 5, .vec nrq439 mrq439 1 (bys lr2) 5, .vec nvq439 mvq439 1 (bys lv2) 5, .vec aux2 cux2 1 (bys lu2) 5, .vec adx2 cdx2 1 (bys ld2) 5, .box bq42 [.slice auy2 (List.length lu2) cuy2, .slice ady2 (List.length ld2) cdy2, .slice ahy2 (List.length lh2) chy2, .slice apy2 (List.length lp2) cpy2, .slice aqy2 (List.length lq2) cqy2, .bool fc2, .bool fe2, .slice ary2 (List.length lr2) cry2, .slice avy2 (List.length lv2) cvy2, .bool bc2, .bool be2] 53, .vec auy2 cuy2 1 (bys lu2) 5, .vec ady2 cdy2 1 (bys ld2) 5, .vec ahy2 chy2 1 (bys lh2) 5, .vec apy2 cpy2 1 (bys lp2) 5, .vec aqy2 cqy2 1 (bys lq2) 5, .vec ary2 cry2 1 (bys lr2) 5, .vec avy2 cvy2 1 (bys lv2) 5] := Hv438.trans (Ev.call (R := [.vec aux2 cux2 1 (bys lu2) 5, .vec adx2 cdx2 1 (bys ld2) 5, .box bq42 [.slice auy2 (List.length lu2) cuy2, .slice ady2 (List.length ld2) cdy2, .slice ahy2 (List.length lh2) chy2, .slice apy2 (List.length lp2) cpy2, .slice aqy2 (List.length lq2) cqy2, .bool fc2, .bool fe2, .slice ary2 (List.length lr2) cry2, .slice avy2 (List.length lv2) cvy2, .bool bc2, .bool be2] 53, .vec auy2 cuy2 1 (bys lu2) 5, .vec ady2 cdy2 1 (bys ld2) 5, .vec ahy2 chy2 1 (bys lh2) 5, .vec apy2 cpy2 1 (bys lp2) 5, .vec aqy2 cqy2 1 (bys lq2) 5, .vec ary2 cry2 1 (bys lr2) 5, .vec avy2 cvy2 1 (bys lv2) 5]) Hv438.heap [0, 3, 4, 5, 6, 7, 1, 2, 8, 9, 10, 11, 12, 13, 14, 15] (by kernel_rfl) (by decide) he445)
              clear hM440 he445
              refine any_at 6 (by kernel_rfl) rfl ?_
              have hM446 : Heap wo442 [] := Hv444.heap.pick [] (by kernel_rfl) (by decide)
              refine op_call (d := some 136) (f := 25) (args := #[.agg #[.slice nhq439 (List.length lh2) mhq439, .slice npq439 (List.length lp2) mpq439, .slice nqq439 (List.length lq2) mqq439, .bool fc2, .bool fe2, .slice nrq439 (List.length lr2) mrq439, .slice nvq439 (List.length lv2) mvq439, .bool bc2, .bool be2], .agg #[.slice ahy2 (List.length lh2) chy2, .slice apy2 (List.length lp2) cpy2, .slice aqy2 (List.length lq2) cqy2, .bool fc2, .bool fe2, .slice ary2 (List.length lr2) cry2, .slice avy2 (List.length lv2) cvy2, .bool bc2, .bool be2]]) En443 (by kernel_rfl) ((same_ref _ nhq439 (List.length lh2) mhq439 lh2 (by first | rfl | (simp; done) | (simp; omega) | omega) (bys_in Hv444.heap (k := 6) rfl [] (by kernel_rfl) rfl (by first | omega | (simp; done) | (simp; omega))) npq439 (List.length lp2) mpq439 lp2 (by first | rfl | (simp; done) | (simp; omega) | omega) (bys_in Hv444.heap (k := 7) rfl [] (by kernel_rfl) rfl (by first | omega | (simp; done) | (simp; omega))) nqq439 (List.length lq2) mqq439 lq2 (by first | rfl | (simp; done) | (simp; omega) | omega) (bys_in Hv444.heap (k := 8) rfl [] (by kernel_rfl) rfl (by first | omega | (simp; done) | (simp; omega))) fc2 fe2 nrq439 (List.length lr2) mrq439 lr2 (by first | rfl | (simp; done) | (simp; omega) | omega) (bys_in Hv444.heap (k := 9) rfl [] (by kernel_rfl) rfl (by first | omega | (simp; done) | (simp; omega))) nvq439 (List.length lv2) mvq439 lv2 (by first | rfl | (simp; done) | (simp; omega) | omega) (bys_in Hv444.heap (k := 10) rfl [] (by kernel_rfl) rfl (by first | omega | (simp; done) | (simp; omega))) bc2 be2 ahy2 (List.length lh2) chy2 lh2 (by first | rfl | (simp; done) | (simp; omega) | omega) (bys_in Hv444.heap (k := 16) rfl [] (by kernel_rfl) rfl (by first | omega | (simp; done) | (simp; omega))) apy2 (List.length lp2) cpy2 lp2 (by first | rfl | (simp; done) | (simp; omega) | omega) (bys_in Hv444.heap (k := 17) rfl [] (by kernel_rfl) rfl (by first | omega | (simp; done) | (simp; omega))) aqy2 (List.length lq2) cqy2 lq2 (by first | rfl | (simp; done) | (simp; omega) | omega) (bys_in Hv444.heap (k := 18) rfl [] (by kernel_rfl) rfl (by first | omega | (simp; done) | (simp; omega))) fc2 fe2 ary2 (List.length lr2) cry2 lr2 (by first | rfl | (simp; done) | (simp; omega) | omega) (bys_in Hv444.heap (k := 19) rfl [] (by kernel_rfl) rfl (by first | omega | (simp; done) | (simp; omega))) avy2 (List.length lv2) cvy2 lv2 (by first | rfl | (simp; done) | (simp; omega) | omega) (bys_in Hv444.heap (k := 20) rfl [] (by kernel_rfl) rfl (by first | omega | (simp; done) | (simp; omega))) bc2 be2).mono ?_)
              rintro _ wo448 ⟨rfl, he451⟩
              refine ⟨_, rfl, ?_⟩
              intro ac447 En449
              have Hv450 : Ev w [] wo448 [.box bq31 [.slice aux2 (List.length lu2) cux2, .bool fc2, .slice adx2 (List.length ld2) cdx2, .bool bc2, .slice ahx2 (List.length lh2) chx2, .slice apx2 (List.length lp2) cpx2, .slice aqx2 (List.length lq2) cqx2, .bool fc2, .bool fe2, .slice arx2 (List.length lr2) crx2, .slice avx2 (List.length lv2) cvx2, .bool bc2, .bool be2] 66, .vec ahx2 chx2 1 (bys lh2) 5, .vec apx2 cpx2 1 (bys lp2) 5, .vec aqx2 cqx2 1 (bys lq2) 5, .vec arx2 crx2 1 (bys lr2) 5, .vec avx2 cvx2 1 (bys lv2) 5, .vec nhq439 mhq439 1 (bys lh2) 5, .vec npq439 mpq439 1 (bys lp2) 5, .vec nqq439 mqq439 1 (bys lq2) 5, .vec nrq439 mrq439 1 (bys lr2) 5, .vec nvq439 mvq439 1 (bys lv2) 5, .vec aux2 cux2 1 (bys lu2) 5, .vec adx2 cdx2 1 (bys ld2) 5, .box bq42 [.slice auy2 (List.length lu2) cuy2, .slice ady2 (List.length ld2) cdy2, .slice ahy2 (List.length lh2) chy2, .slice apy2 (List.length lp2) cpy2, .slice aqy2 (List.length lq2) cqy2, .bool fc2, .bool fe2, .slice ary2 (List.length lr2) cry2, .slice avy2 (List.length lv2) cvy2, .bool bc2, .bool be2] 53, .vec auy2 cuy2 1 (bys lu2) 5, .vec ady2 cdy2 1 (bys ld2) 5, .vec ahy2 chy2 1 (bys lh2) 5, .vec apy2 cpy2 1 (bys lp2) 5, .vec aqy2 cqy2 1 (bys lq2) 5, .vec ary2 cry2 1 (bys lr2) 5, .vec avy2 cvy2 1 (bys lv2) 5] := Hv444.trans (Ev.call (R := [.box bq31 [.slice aux2 (List.length lu2) cux2, .bool fc2, .slice adx2 (List.length ld2) cdx2, .bool bc2, .slice ahx2 (List.length lh2) chx2, .slice apx2 (List.length lp2) cpx2, .slice aqx2 (List.length lq2) cqx2, .bool fc2, .bool fe2, .slice arx2 (List.length lr2) crx2, .slice avx2 (List.length lv2) cvx2, .bool bc2, .bool be2] 66, .vec ahx2 chx2 1 (bys lh2) 5, .vec apx2 cpx2 1 (bys lp2) 5, .vec aqx2 cqx2 1 (bys lq2) 5, .vec arx2 crx2 1 (bys lr2) 5, .vec avx2 cvx2 1 (bys lv2) 5, .vec nhq439 mhq439 1 (bys lh2) 5, .vec npq439 mpq439 1 (bys lp2) 5, .vec nqq439 mqq439 1 (bys lq2) 5, .vec nrq439 mrq439 1 (bys lr2) 5, .vec nvq439 mvq439 1 (bys lv2) 5, .vec aux2 cux2 1 (bys lu2) 5, .vec adx2 cdx2 1 (bys ld2) 5, .box bq42 [.slice auy2 (List.length lu2) cuy2, .slice ady2 (List.length ld2) cdy2, .slice ahy2 (List.length lh2) chy2, .slice apy2 (List.length lp2) cpy2, .slice aqy2 (List.length lq2) cqy2, .bool fc2, .bool fe2, .slice ary2 (List.length lr2) cry2, .slice avy2 (List.length lv2) cvy2, .bool bc2, .bool be2] 53, .vec auy2 cuy2 1 (bys lu2) 5, .vec ady2 cdy2 1 (bys ld2) 5, .vec ahy2 chy2 1 (bys lh2) 5, .vec apy2 cpy2 1 (bys lp2) 5, .vec aqy2 cqy2 1 (bys lq2) 5, .vec ary2 cry2 1 (bys lr2) 5, .vec avy2 cvy2 1 (bys lv2) 5]) Hv444.heap [0, 1, 2, 3, 4, 5, 6, 7, 8, 9, 10, 11, 12, 13, 14, 15, 16, 17, 18, 19, 20] (by kernel_rfl) (by decide) he451)
              clear hM446 he451
              refine any_pureR (d := some 17) En449 (v := .bool ((lp2 == lp2 && (lq2 == lq2 && (fc2 == fc2 && fe2 == fe2))) && ((lr2 == lr2 && (lv2 == lv2 && (bc2 == bc2 && be2 == be2))) && lh2 == lh2))) 7 (by kernel_rfl) (by kernel_rfl) rfl ?_
              intro ac452 En453
              rw [show ((lp2 == lp2 && (lq2 == lq2 && (fc2 == fc2 && fe2 == fe2))) && ((lr2 == lr2 && (lv2 == lv2 && (bc2 == bc2 && be2 == be2))) && lh2 == lh2)) = true from by simp] at En453
              exact any_end (by kernel_rfl) ⟨En453.sub (by kernel_rfl), Hv450.pick [0, 1, 2, 3, 4, 5, 11, 12, 13, 14, 15, 16, 17, 18, 19, 20] (by kernel_rfl) (by decide)⟩
            refine any_from hG ?_
            refine any_pureR (d := some 130) En374 (v := .pointer (some ⟨bq31, 0, none⟩)) 0 (by kernel_rfl) (by kernel_rfl) rfl ?_
            intro ac454 En455
            refine any_pureR (d := some 132) En455 (v := .pointer (some ⟨bq42, 0, none⟩)) 2 (by kernel_rfl) (by kernel_rfl) rfl ?_
            intro ac456 En457
            refine any_pureR (d := some 133) En457 (v := .pointer (some ⟨bq42, 0, none⟩)) 3 (by kernel_rfl) (by kernel_rfl) rfl ?_
            intro ac458 En459
            refine any_pureR (d := some 134) En459 (v := .pointer (some ⟨bq42, 2, none⟩)) 4 (by kernel_rfl) (by kernel_rfl) rfl ?_
            intro ac460 En461
            refine any_two 1 5 (by kernel_rfl) ?_ ?_
            · rintro _ rfl
              have hM463 : Heap wo373.drew [.box bq31 [.slice aux2 (List.length lu2) cux2, .bool fc2, .slice adx2 (List.length ld2) cdx2, .bool bc2, .slice ahx2 (List.length lh2) chx2, .slice apx2 (List.length lp2) cpx2, .slice aqx2 (List.length lq2) cqx2, .bool fc2, .bool fe2, .slice arx2 (List.length lr2) crx2, .slice avx2 (List.length lv2) cvx2, .bool bc2, .bool be2] 66, .vec ahx2 chx2 1 (bys lh2) 5, .vec apx2 cpx2 1 (bys lp2) 5, .vec aqx2 cqx2 1 (bys lq2) 5, .vec arx2 crx2 1 (bys lr2) 5, .vec avx2 cvx2 1 (bys lv2) 5] := wo376.heap.pick [0, 3, 4, 5, 6, 7] (by kernel_rfl) (by decide)
              refine op_call (d := some 131) (f := 26) (args := #[.pointer (some ⟨bq31, 0, none⟩)]) En461 (by kernel_rfl) ((story_go _ bq31 aux2 adx2 ahx2 apx2 aqx2 arx2 avx2 cux2 cdx2 chx2 cpx2 cqx2 crx2 cvx2 lu2 ld2 lh2 lp2 lq2 lr2 lv2 fc2 fe2 bc2 be2 hM463 (by omega)).mono ?_)
              rintro _ wo465 ⟨nhq462, npq462, nqq462, nrq462, nvq462, mhq462, mpq462, mqq462, mrq462, mvq462, rfl, he468⟩
              refine ⟨_, rfl, ?_⟩
              intro ac464 En466
              have Hv467 : Ev w [] wo465 [.box bq31 [.slice aux2 (List.length lu2) cux2, .bool fc2, .slice adx2 (List.length ld2) cdx2, .bool bc2, .slice ahx2 (List.length lh2) chx2, .slice apx2 (List.length lp2) cpx2, .slice aqx2 (List.length lq2) cqx2, .bool fc2, .bool fe2, .slice arx2 (List.length lr2) crx2, .slice avx2 (List.length lv2) cvx2, .bool bc2, .bool be2] 66, .vec ahx2 chx2 1 (bys lh2) 5, .vec apx2 cpx2 1 (bys lp2) 5, .vec aqx2 cqx2 1 (bys lq2) 5, .vec arx2 crx2 1 (bys lr2) 5, .vec avx2 cvx2 1 (bys lv2) 5, .vec nhq462 mhq462 1 (bys lh2) 5, .vec npq462 mpq462 1 (bys lp2) 5, .vec nqq462 mqq462 1 (bys lq2) 5, .vec nrq462 mrq462 1 (bys lr2) 5, .vec nvq462 mvq462 1 (bys lv2) 5, .vec aux2 cux2 1 (bys lu2) 5, .vec adx2 cdx2 1 (bys ld2) 5, .box bq42 [.slice auy2 (List.length lu2) cuy2, .slice ady2 (List.length ld2) cdy2, .slice ahy2 (List.length lh2) chy2, .slice apy2 (List.length lp2) cpy2, .slice aqy2 (List.length lq2) cqy2, .bool fc2, .bool fe2, .slice ary2 (List.length lr2) cry2, .slice avy2 (List.length lv2) cvy2, .bool bc2, .bool be2] 53, .vec auy2 cuy2 1 (bys lu2) 5, .vec ady2 cdy2 1 (bys ld2) 5, .vec ahy2 chy2 1 (bys lh2) 5, .vec apy2 cpy2 1 (bys lp2) 5, .vec aqy2 cqy2 1 (bys lq2) 5, .vec ary2 cry2 1 (bys lr2) 5, .vec avy2 cvy2 1 (bys lv2) 5] := wo376.trans (Ev.call (R := [.vec aux2 cux2 1 (bys lu2) 5, .vec adx2 cdx2 1 (bys ld2) 5, .box bq42 [.slice auy2 (List.length lu2) cuy2, .slice ady2 (List.length ld2) cdy2, .slice ahy2 (List.length lh2) chy2, .slice apy2 (List.length lp2) cpy2, .slice aqy2 (List.length lq2) cqy2, .bool fc2, .bool fe2, .slice ary2 (List.length lr2) cry2, .slice avy2 (List.length lv2) cvy2, .bool bc2, .bool be2] 53, .vec auy2 cuy2 1 (bys lu2) 5, .vec ady2 cdy2 1 (bys ld2) 5, .vec ahy2 chy2 1 (bys lh2) 5, .vec apy2 cpy2 1 (bys lp2) 5, .vec aqy2 cqy2 1 (bys lq2) 5, .vec ary2 cry2 1 (bys lr2) 5, .vec avy2 cvy2 1 (bys lv2) 5]) wo376.heap [0, 3, 4, 5, 6, 7, 1, 2, 8, 9, 10, 11, 12, 13, 14, 15] (by kernel_rfl) (by decide) he468)
              clear hM463 he468
              exact any_to hG (by kernel_rfl) (nd419 _ _ nhq462 npq462 nqq462 nrq462 nvq462 mhq462 mpq462 mqq462 mrq462 mvq462 (En466.sub (by kernel_rfl)) (Hv467.pick [0, 1, 2, 3, 4, 5, 6, 7, 8, 9, 10, 11, 12, 13, 14, 15, 16, 17, 18, 19, 20] (by kernel_rfl) (by decide)))
            · rintro _ rfl
              refine op_loadaggbox (d := some 135) (t := 26) (b := bq42) (off := 2) (k := 8) (m := 9) (xs := [.slice ahy2 (List.length lh2) chy2, .slice apy2 (List.length lp2) cpy2, .slice aqy2 (List.length lq2) cqy2, .bool fc2, .bool fe2, .slice ary2 (List.length lr2) cry2, .slice avy2 (List.length lv2) cvy2, .bool bc2, .bool be2]) En461 (by kernel_rfl) wo376 rfl rfl rfl (by kernel_rfl) (by kernel_rfl) ?_
              intro ac469 En470
              exact any_to hG (by kernel_rfl) (nd434 _ _ (En470.sub (by kernel_rfl)) (wo376.pick [0, 1, 2, 3, 4, 5, 6, 7, 8, 9, 10, 11, 12, 13, 14, 15] (by kernel_rfl) (by decide)))
          rintro ac471 wo472 ⟨En473, Hv474⟩
          refine then_normal ?_
          refine wp_seq ?_
          refine region_from ?_  -- region 38
          refine d_pures [(0, .slice a_x (List.length x) c_x), (1, .slice a_l (List.length l) c_l), (6, .slice ao19 (List.length x) cp20), (7, .pointer (some ⟨bq31, 0, none⟩)), (8, .pointer (some ⟨bq42, 0, none⟩)), (9, .int .i64 ((k55 : Nat) : Int)), (10, .int .i64 ((j : Nat) : Int)), (11, .pointer (some ⟨bk127, 0, none⟩)), (12, .slice ao146 (List.length x124c) cp147), (60, .int .i64 (x124a % (2 ^ 2 : Int))), (139, .bool false), (140, .pointer (some ⟨bq31, 0, none⟩))] [.bool true, .bool false, .bool false, .pointer (some ⟨bq31, 0, none⟩)] 4 En473 (by kernel_rfl) (by kernel_rfl) rfl ?_
          intro ac475 En476
          refine from_op (by kernel_rfl) ?_
          have hM478 : Heap wo472 [.box bq31 [.slice aux2 (List.length lu2) cux2, .bool fc2, .slice adx2 (List.length ld2) cdx2, .bool bc2, .slice ahx2 (List.length lh2) chx2, .slice apx2 (List.length lp2) cpx2, .slice aqx2 (List.length lq2) cqx2, .bool fc2, .bool fe2, .slice arx2 (List.length lr2) crx2, .slice avx2 (List.length lv2) cvx2, .bool bc2, .bool be2] 66, .vec ahx2 chx2 1 (bys lh2) 5, .vec apx2 cpx2 1 (bys lp2) 5, .vec aqx2 cqx2 1 (bys lq2) 5, .vec arx2 crx2 1 (bys lr2) 5, .vec avx2 cvx2 1 (bys lv2) 5] := Hv474.heap.pick [0, 1, 2, 3, 4, 5] (by kernel_rfl) (by decide)
          refine op_call (d := some 141) (f := 26) (args := #[.pointer (some ⟨bq31, 0, none⟩)]) En476 (by kernel_rfl) ((story_go _ bq31 aux2 adx2 ahx2 apx2 aqx2 arx2 avx2 cux2 cdx2 chx2 cpx2 cqx2 crx2 cvx2 lu2 ld2 lh2 lp2 lq2 lr2 lv2 fc2 fe2 bc2 be2 hM478 (by omega)).mono ?_)
          rintro _ wo480 ⟨nhq477, npq477, nqq477, nrq477, nvq477, mhq477, mpq477, mqq477, mrq477, mvq477, rfl, he483⟩
          refine ⟨_, rfl, ?_⟩
          intro ac479 En481
          have Hv482 : Ev w [] wo480 [.box bq31 [.slice aux2 (List.length lu2) cux2, .bool fc2, .slice adx2 (List.length ld2) cdx2, .bool bc2, .slice ahx2 (List.length lh2) chx2, .slice apx2 (List.length lp2) cpx2, .slice aqx2 (List.length lq2) cqx2, .bool fc2, .bool fe2, .slice arx2 (List.length lr2) crx2, .slice avx2 (List.length lv2) cvx2, .bool bc2, .bool be2] 66, .vec ahx2 chx2 1 (bys lh2) 5, .vec apx2 cpx2 1 (bys lp2) 5, .vec aqx2 cqx2 1 (bys lq2) 5, .vec arx2 crx2 1 (bys lr2) 5, .vec avx2 cvx2 1 (bys lv2) 5, .vec nhq477 mhq477 1 (bys lh2) 5, .vec npq477 mpq477 1 (bys lp2) 5, .vec nqq477 mqq477 1 (bys lq2) 5, .vec nrq477 mrq477 1 (bys lr2) 5, .vec nvq477 mvq477 1 (bys lv2) 5, .vec aux2 cux2 1 (bys lu2) 5, .vec adx2 cdx2 1 (bys ld2) 5, .box bq42 [.slice auy2 (List.length lu2) cuy2, .slice ady2 (List.length ld2) cdy2, .slice ahy2 (List.length lh2) chy2, .slice apy2 (List.length lp2) cpy2, .slice aqy2 (List.length lq2) cqy2, .bool fc2, .bool fe2, .slice ary2 (List.length lr2) cry2, .slice avy2 (List.length lv2) cvy2, .bool bc2, .bool be2] 53, .vec auy2 cuy2 1 (bys lu2) 5, .vec ady2 cdy2 1 (bys ld2) 5, .vec ahy2 chy2 1 (bys lh2) 5, .vec apy2 cpy2 1 (bys lp2) 5, .vec aqy2 cqy2 1 (bys lq2) 5, .vec ary2 cry2 1 (bys lr2) 5, .vec avy2 cvy2 1 (bys lv2) 5] := Hv474.trans (Ev.call (R := [.vec aux2 cux2 1 (bys lu2) 5, .vec adx2 cdx2 1 (bys ld2) 5, .box bq42 [.slice auy2 (List.length lu2) cuy2, .slice ady2 (List.length ld2) cdy2, .slice ahy2 (List.length lh2) chy2, .slice apy2 (List.length lp2) cpy2, .slice aqy2 (List.length lq2) cqy2, .bool fc2, .bool fe2, .slice ary2 (List.length lr2) cry2, .slice avy2 (List.length lv2) cvy2, .bool bc2, .bool be2] 53, .vec auy2 cuy2 1 (bys lu2) 5, .vec ady2 cdy2 1 (bys ld2) 5, .vec ahy2 chy2 1 (bys lh2) 5, .vec apy2 cpy2 1 (bys lp2) 5, .vec aqy2 cqy2 1 (bys lq2) 5, .vec ary2 cry2 1 (bys lr2) 5, .vec avy2 cvy2 1 (bys lv2) 5]) Hv474.heap [0, 1, 2, 3, 4, 5, 6, 7, 8, 9, 10, 11, 12, 13, 14, 15] (by kernel_rfl) (by decide) he483)
          clear hM478 he483
          refine from_op (by kernel_rfl) ?_
          have hM484 : Heap wo480 [] := Hv482.heap.pick [] (by kernel_rfl) (by decide)
          refine op_call (d := some 142) (f := 9) (args := #[.agg #[.slice nhq477 (List.length lh2) mhq477, .slice npq477 (List.length lp2) mpq477, .slice nqq477 (List.length lq2) mqq477, .bool fc2, .bool fe2, .slice nrq477 (List.length lr2) mrq477, .slice nvq477 (List.length lv2) mvq477, .bool bc2, .bool be2]]) En481 (by kernel_rfl) ((relay_go _ nhq477 (List.length lh2) mhq477 lh2 (by first | rfl | (simp; done) | (simp; omega) | omega) (bys_in Hv482.heap (k := 6) rfl [] (by kernel_rfl) rfl (by first | omega | (simp; done) | (simp; omega))) npq477 (List.length lp2) mpq477 lp2 (by first | rfl | (simp; done) | (simp; omega) | omega) (bys_in Hv482.heap (k := 7) rfl [] (by kernel_rfl) rfl (by first | omega | (simp; done) | (simp; omega))) nqq477 (List.length lq2) mqq477 lq2 (by first | rfl | (simp; done) | (simp; omega) | omega) (bys_in Hv482.heap (k := 8) rfl [] (by kernel_rfl) rfl (by first | omega | (simp; done) | (simp; omega))) fc2 fe2 nrq477 (List.length lr2) mrq477 lr2 (by first | rfl | (simp; done) | (simp; omega) | omega) (bys_in Hv482.heap (k := 9) rfl [] (by kernel_rfl) rfl (by first | omega | (simp; done) | (simp; omega))) nvq477 (List.length lv2) mvq477 lv2 (by first | rfl | (simp; done) | (simp; omega) | omega) (bys_in Hv482.heap (k := 10) rfl [] (by kernel_rfl) rfl (by first | omega | (simp; done) | (simp; omega))) bc2 be2 (by first | omega | (simp; done) | (simp; omega))).mono ?_)
          rintro _ wo486 ⟨rfl, he489⟩
          refine ⟨_, rfl, ?_⟩
          intro ac485 En487
          have Hv488 : Ev w [] wo486 [.box bq31 [.slice aux2 (List.length lu2) cux2, .bool fc2, .slice adx2 (List.length ld2) cdx2, .bool bc2, .slice ahx2 (List.length lh2) chx2, .slice apx2 (List.length lp2) cpx2, .slice aqx2 (List.length lq2) cqx2, .bool fc2, .bool fe2, .slice arx2 (List.length lr2) crx2, .slice avx2 (List.length lv2) cvx2, .bool bc2, .bool be2] 66, .vec ahx2 chx2 1 (bys lh2) 5, .vec apx2 cpx2 1 (bys lp2) 5, .vec aqx2 cqx2 1 (bys lq2) 5, .vec arx2 crx2 1 (bys lr2) 5, .vec avx2 cvx2 1 (bys lv2) 5, .vec nhq477 mhq477 1 (bys lh2) 5, .vec npq477 mpq477 1 (bys lp2) 5, .vec nqq477 mqq477 1 (bys lq2) 5, .vec nrq477 mrq477 1 (bys lr2) 5, .vec nvq477 mvq477 1 (bys lv2) 5, .vec aux2 cux2 1 (bys lu2) 5, .vec adx2 cdx2 1 (bys ld2) 5, .box bq42 [.slice auy2 (List.length lu2) cuy2, .slice ady2 (List.length ld2) cdy2, .slice ahy2 (List.length lh2) chy2, .slice apy2 (List.length lp2) cpy2, .slice aqy2 (List.length lq2) cqy2, .bool fc2, .bool fe2, .slice ary2 (List.length lr2) cry2, .slice avy2 (List.length lv2) cvy2, .bool bc2, .bool be2] 53, .vec auy2 cuy2 1 (bys lu2) 5, .vec ady2 cdy2 1 (bys ld2) 5, .vec ahy2 chy2 1 (bys lh2) 5, .vec apy2 cpy2 1 (bys lp2) 5, .vec aqy2 cqy2 1 (bys lq2) 5, .vec ary2 cry2 1 (bys lr2) 5, .vec avy2 cvy2 1 (bys lv2) 5] := Hv482.trans (Ev.call (R := [.box bq31 [.slice aux2 (List.length lu2) cux2, .bool fc2, .slice adx2 (List.length ld2) cdx2, .bool bc2, .slice ahx2 (List.length lh2) chx2, .slice apx2 (List.length lp2) cpx2, .slice aqx2 (List.length lq2) cqx2, .bool fc2, .bool fe2, .slice arx2 (List.length lr2) crx2, .slice avx2 (List.length lv2) cvx2, .bool bc2, .bool be2] 66, .vec ahx2 chx2 1 (bys lh2) 5, .vec apx2 cpx2 1 (bys lp2) 5, .vec aqx2 cqx2 1 (bys lq2) 5, .vec arx2 crx2 1 (bys lr2) 5, .vec avx2 cvx2 1 (bys lv2) 5, .vec nhq477 mhq477 1 (bys lh2) 5, .vec npq477 mpq477 1 (bys lp2) 5, .vec nqq477 mqq477 1 (bys lq2) 5, .vec nrq477 mrq477 1 (bys lr2) 5, .vec nvq477 mvq477 1 (bys lv2) 5, .vec aux2 cux2 1 (bys lu2) 5, .vec adx2 cdx2 1 (bys ld2) 5, .box bq42 [.slice auy2 (List.length lu2) cuy2, .slice ady2 (List.length ld2) cdy2, .slice ahy2 (List.length lh2) chy2, .slice apy2 (List.length lp2) cpy2, .slice aqy2 (List.length lq2) cqy2, .bool fc2, .bool fe2, .slice ary2 (List.length lr2) cry2, .slice avy2 (List.length lv2) cvy2, .bool bc2, .bool be2] 53, .vec auy2 cuy2 1 (bys lu2) 5, .vec ady2 cdy2 1 (bys ld2) 5, .vec ahy2 chy2 1 (bys lh2) 5, .vec apy2 cpy2 1 (bys lp2) 5, .vec aqy2 cqy2 1 (bys lq2) 5, .vec ary2 cry2 1 (bys lr2) 5, .vec avy2 cvy2 1 (bys lv2) 5]) Hv482.heap [0, 1, 2, 3, 4, 5, 6, 7, 8, 9, 10, 11, 12, 13, 14, 15, 16, 17, 18, 19, 20] (by kernel_rfl) (by decide) he489)
          clear hM484 he489
          refine d_pures [(0, .slice a_x (List.length x) c_x), (1, .slice a_l (List.length l) c_l), (6, .slice ao19 (List.length x) cp20), (7, .pointer (some ⟨bq31, 0, none⟩)), (8, .pointer (some ⟨bq42, 0, none⟩)), (9, .int .i64 ((k55 : Nat) : Int)), (10, .int .i64 ((j : Nat) : Int)), (11, .pointer (some ⟨bk127, 0, none⟩)), (12, .slice ao146 (List.length x124c) cp147), (60, .int .i64 (x124a % (2 ^ 2 : Int))), (139, .bool false), (143, .bool (relayF lh2 lp2 lq2 fc2 fe2 lr2 lv2 bc2 be2 != (0 : Int)))] [.bool (relayF lh2 lp2 lq2 fc2 fe2 lr2 lv2 bc2 be2 != (0 : Int))] 7 En487 (by kernel_rfl) (by kernel_rfl) rfl ?_
          intro ac490 En491
          rw [show (relayF lh2 lp2 lq2 fc2 fe2 lr2 lv2 bc2 be2 != (0 : Int)) = false from (by rw [bne_eq_false_iff_eq]; exact Rel.ok_relay hok2)] at En491
          refine d_pures [(0, .slice a_x (List.length x) c_x), (1, .slice a_l (List.length l) c_l), (6, .slice ao19 (List.length x) cp20), (7, .pointer (some ⟨bq31, 0, none⟩)), (8, .pointer (some ⟨bq42, 0, none⟩)), (9, .int .i64 ((k55 : Nat) : Int)), (10, .int .i64 ((j : Nat) : Int)), (11, .pointer (some ⟨bk127, 0, none⟩)), (12, .slice ao146 (List.length x124c) cp147), (60, .int .i64 (x124a % (2 ^ 2 : Int))), (144, .bool false)] [.bool false] 8 En491 (by kernel_rfl) (by kernel_rfl) rfl ?_
          intro ac492 En493
          refine from_end (by kernel_rfl) ?_
          refine then_normal ?_
          refine cond_false En493 (t := false) (by kernel_rfl) rfl ?_
          refine wp_skip ?_
          refine block_normal ?_
          refine then_normal ?_
          refine region_from ?_  -- region 13
          refine d_pures [(0, .slice a_x (List.length x) c_x), (1, .slice a_l (List.length l) c_l), (6, .slice ao19 (List.length x) cp20), (7, .pointer (some ⟨bq31, 0, none⟩)), (8, .pointer (some ⟨bq42, 0, none⟩)), (9, .int .i64 ((k55 : Nat) : Int)), (10, .int .i64 ((j : Nat) : Int)), (11, .pointer (some ⟨bk127, 0, none⟩)), (12, .slice ao146 (List.length x124c) cp147), (49, .int .i64 (IntKind.wrap .i64 (((j : Nat) : Int) + (1 : Int)))), (60, .int .i64 (x124a % (2 ^ 2 : Int)))] [.int .i64 ((j : Nat) : Int), .int .i64 (IntKind.wrap .i64 (((j : Nat) : Int) + (1 : Int)))] 2 En493 (by kernel_rfl) (by kernel_rfl) rfl ?_
          intro ac494 En495
          rw [Go.Dbr.wr64 (e := ((j : Nat) : Int) + (1 : Int)) (x := ((j + 1 : Nat) : Int)) (by omega) (by omega) (by omega)] at En495
          refine d_pures [(0, .slice a_x (List.length x) c_x), (1, .slice a_l (List.length l) c_l), (6, .slice ao19 (List.length x) cp20), (7, .pointer (some ⟨bq31, 0, none⟩)), (8, .pointer (some ⟨bq42, 0, none⟩)), (9, .int .i64 ((k55 : Nat) : Int)), (10, .int .i64 ((j + 1 : Nat) : Int)), (11, .pointer (some ⟨bk127, 0, none⟩)), (12, .slice ao146 (List.length x124c) cp147), (60, .int .i64 (x124a % (2 ^ 2 : Int)))] [.int .i64 ((j + 1 : Nat) : Int)] 3 En495 (by kernel_rfl) (by kernel_rfl) rfl ?_
          intro ac496 En497
          refine from_end (by kernel_rfl) ?_
          refine then_normal ?_
          refine ⟨_, ⟨j + 1, aux2, adx2, ahx2, apx2, aqx2, arx2, avx2, cux2, cdx2, chx2, cpx2, cqx2, crx2, cvx2, auy2, ady2, ahy2, apy2, aqy2, ary2, avy2, cuy2, cdy2, chy2, cpy2, cqy2, cry2, cvy2, lu2, ld2, lh2, lp2, lq2, lr2, lv2, fc2, fe2, bc2, be2, rfl, En497.sub (by kernel_rfl), Hv488.pick [0, 11, 12, 1, 2, 3, 4, 5, 13, 14, 15, 16, 17, 18, 19, 20] (by kernel_rfl) (by decide), by omega, hok2, by rw [sum_take _ hx123]; exact hsz2⟩, ?_⟩
          omega
    ·
      replace hc115 : ¬ (((j : Nat) : Int) < ((List.length l : Nat) : Int)) := of_decide_eq_false hc115
      refine wp_exit ?_
      refine then_exit ?_
      refine then_exit ?_
      refine block_exit ?_
      refine then_normal ?_
      refine wp_seq ?_
      refine region_from ?_  -- region 40
      refine d_pures [(0, .slice a_x (List.length x) c_x), (1, .slice a_l (List.length l) c_l), (4, .bool true), (6, .slice ao19 (List.length x) cp20), (7, .pointer (some ⟨bq31, 0, none⟩)), (8, .pointer (some ⟨bq42, 0, none⟩)), (9, .int .i64 ((k55 : Nat) : Int)), (10, .int .i64 ((j : Nat) : Int))] [.bool true] 1 En114 (by kernel_rfl) (by kernel_rfl) rfl ?_
      intro ac498 En499
      refine from_end (by kernel_rfl) ?_
      refine then_normal ?_
      refine wp_ret ?_
      refine d_ret1 (t := 4) (v := .bool true) En499 (by kernel_rfl) (by kernel_rfl) ?_
      exact ⟨rfl, Hv111.pick [] (by kernel_rfl) (by decide)⟩

end Go.Proofs.Ytjecaljhipfbfaa
