/- LogsEncode: the walk. -/
import Derived.Test.YtfcfgbejpcmmkaaDoorSq
import Derived.Test.YtfcfgbejpcmmkaaDoorCutS
namespace Go.Proofs.YtfcfgbejpcmmkaaDoor
open Go.Dbr
set_option maxRecDepth 100000
set_option maxHeartbeats 2000000
set_option linter.unusedVariables false
set_option linter.unusedSimpArgs false

theorem own_in {xs : List RPair} {z : RPair} {w : World} {L : List Ent} {k : Nat} {a : Option Addr} {c : Nat} {T : TypeId} (h : Heap w L) (hk : L[k]? = some (.vec a c 4 (List.flatMap fPair (xs ++ [z])) T)) (hs : xs.length * 48 ≤ 140737488351232) (ok : ∀ y ∈ xs, y.1.length ≤ 140737488351232 ∧ True ∧ True ∧ y.2.2.2.1.length ≤ 140737488351232 ∧ True) : InS fPair 48 (fun y : RPair => ((List.length y.1 ≤ 140737488351232) ∧ (True ∧ (True ∧ ((List.length y.2.2.2.1 ≤ 140737488351232) ∧ (True)))))) w [] a c xs := by
  have h1 := sv_take_reads (f := fPair) (sz := 4) (fun _ => rfl) (h.reads hk) xs.length
  rw [List.take_left] at h1
  have h2 := sv_nz (f := fPair) (sz := 4) h hk (fun _ => rfl) (by decide)
  have h3 := sv_vcap (f := fPair) (sz := 4) h hk (fun _ => rfl) (by decide)
  rw [List.length_append] at h2 h3
  exact ⟨⟨h1, fun _ _ _ => Owns.nil⟩, fun e => by have := h2 e; omega, by omega, by omega, ok⟩

theorem walk (la : UInt64) (lb : List UInt8) (a_lc : Option Addr) (c_lc : Nat) (lc : List (RPair)) (w : World) (s_lb : (List.length lb ≤ 140737488351232)) (i_lc : InS fPair 48 (fun x : RPair => ((List.length x.1 ≤ 140737488351232) ∧ (True ∧ (True ∧ ((List.length x.2.2.2.1 ≤ 140737488351232) ∧ (True)))))) w [] a_lc c_lc lc) (gt : InT w []) : Calls Tryd.prog 4 #[.agg #[uv64 la, .string (bstr lb), .slice a_lc (List.length lc) c_lc]] w fun e w' => e = .returned (.bool true) ∧ Ev w [] w' [] := by
 refine d_0 [(0, .agg #[uv64 la, .string (bstr lb), .slice a_lc (List.length lc) c_lc])] 80 Go.Proofs.Tryd.func4 Go.Proofs.Tryd.ntmps4 (Heap.nil _) fun act0 En0 Hv0 => ?_
 refine wp_seq ?_
 refine region_from ?_
 refine f_o ?_
 refine m_m 25 [uv64 la, .string (bstr lb), .slice a_lc (List.length lc) c_lc] En0 Hv0 fun ac2 wo3 bk1 En4 Hv5 => ?_
 refine d_e [1,2] [] En4 fun ac6 En7 => ?_
 refine then_normal ?_
 refine wp_seq ?_
 refine region_from ?_
 refine f_o ?_
 refine c_p En7 Hv5 (head_go _ ((gt.ev Hv5).nil)) fun ac12 wo9 En13 Hv14 => ?_
 refine d_e [1,2,3] [] En13 fun ac15 En16 => ?_
 refine then_normal ?_
 refine wp_seq ?_
 have hzl := i_lc.small
 have hL1 : List.length ([] ++ lc : List RPair) = List.length lc := rfl
 have hL2 : List.length (([] ++ lc) ++ [(([108, 97, 115, 116] : Bs), false, (0 : UInt64), ([] : Bs), ())] : List RPair) = List.length lc + 1 := by simp
 refine r_c (fun ac wo => ∃ (ao449 : Option Addr) (cp450 : Nat), Env ac 80 [(1, pt bk1), (2, .bool false), (3, .bool true), (4, .slice ao449 (List.length lc) cp450)] ∧ Ev w [] wo [.box bk1 [uv64 la, .string (bstr lb), .slice a_lc (List.length lc) c_lc] 25, .vec ao449 cp450 4 (List.flatMap fPair ((([] : List (RPair)) ++ lc) ++ ([([108, 97, 115, 116], false, (0 : UInt64), [], ())] : List (RPair)))) 35]) ?_ ?_
 ·
  refine h_s (fun wv => Ev w [] wv [.box bk1 [uv64 la, .string (bstr lb), .slice a_lc (List.length lc) c_lc] 25]) [] 12 ?_
  have wo17 := Hv14.trans (Ev.drew Hv14.heap)
  refine h_name fun G hG => ?_
  have nd519 : ∀ (ac : Act) (wo : World) (ao436 : Option Addr) (cp437 : Nat), Env ac 80 [(1, pt bk1), (2, .bool false), (3, .bool true), (14, .slice ao436 (List.length (([] : List (RPair)) ++ lc)) cp437), (15, .agg #[.string (bstr [108, 97, 115, 116]), .bool false, .int .u64 0, .string (bstr [])]), (20, .int .i64 ((List.length lc : Nat) : Int))] → Ev w [] wo [.box bk1 [uv64 la, .string (bstr lb), .slice a_lc (List.length lc) c_lc] 25, .vec ao436 cp437 4 (List.flatMap fPair (([] : List (RPair)) ++ lc)) 35] → G 4 #[true, true, true, true, true, false, false, true, true, true, false, false] ac wo := by
   intro ac520 wo521 ao436 cp437 En522 Hv523
   refine h_from hG ?_
   refine q_t 5 ?_
   refine op_lit (d := some 16) (t := 23) (T := 35) (m := 1) (parts := #[(0, .agg #[.string (bstr [108, 97, 115, 116]), .bool false, .int .u64 0, .string (bstr [])])]) (xs := List.flatMap fPair ([([108, 97, 115, 116], false, (0 : UInt64), [], ())] : List (RPair))) (sz := 4) En522 (by kernel_rfl) (by kernel_rfl) rfl (by decide) Hv523 ?_
   intro ac525 wo526 bk524 En527 Hv528
   refine ⟨fun _ => Hv528.pick [0] (by kernel_rfl) (by decide), ?_⟩
   refine q_t 6 ?_
   refine op_append (d := some 17) (t := 23) (tx := 23) (ty := 23) (k := 1) (p := List.length (([] : List (RPair)) ++ lc)) (m := 1) (x := .slice (some ⟨bk524, 0, none⟩) 1 1) (bytes := 48) En527 (by kernel_rfl) Hv528 rfl (sv_len (f := fPair) (sz := 4) (fun _ => rfl) _) (Reads.src (size := 4) (tx := 23) (e' := 35) (by kernel_rfl) (Hv528.heap.reads (k := 2) rfl) rfl (fun e => by cases e) (flat_one (f := fPair) (fun _ => one_all rfl) _)) (by kernel_rfl) (z := .agg #[.string (bstr []), .bool false, .int .u64 0, .string (bstr [])]) (by kernel_rfl) rfl (by decide) (by omega) (by unfold maxLen; omega) ?_
   intro ac533 wo534 ao529 cp530 En535 Hv536 hnz _
   clear hnz
   rw [← List.flatMap_append] at Hv536
   have ehz531 : (List.length (([] : List (RPair)) ++ lc)) + 1 = List.length ((([] : List (RPair)) ++ lc) ++ ([([108, 97, 115, 116], false, (0 : UInt64), [], ())] : List (RPair))) := (by first | (simp; done) | (simp; omega) | omega)
   rw [ehz531] at En535
   refine ⟨fun _ => Hv536.pick [0] (by kernel_rfl) (by decide), ?_⟩
   refine q_t 10 ?_
   have hcap537 := sv_vcap (f := fPair) (sz := 4) Hv536.heap (k := 1) rfl (fun _ => rfl) (by decide)
   refine op_slice0 (d := some 21) (t := 23) (e := 35) (sz := 4) (len := List.length ((([] : List (RPair)) ++ lc) ++ ([([108, 97, 115, 116], false, (0 : UInt64), [], ())] : List (RPair)))) (cap := cp530) (hi := List.length lc) (ao := ao529) (lov := none) (hiv := (some (.int .i64 ((List.length lc : Nat) : Int)))) En535 (by kernel_rfl) (by kernel_rfl) (by kernel_rfl) (by omega) (.inl ⟨rfl, rfl⟩) (.inr ⟨.i64, rfl⟩) ?_
   intro ac538 En539
   refine ⟨fun _ => Hv536.pick [0] (by kernel_rfl) (by decide), ?_⟩
   refine q_s [11] [] 0 En539 (Hv536.pick [0] (by kernel_rfl) (by decide)) fun ac540 En541 => ?_
   exact h_e ⟨ao529, cp530, En541.sub (by kernel_rfl), Hv536.pick [0, 1] (by kernel_rfl) (by decide)⟩
  have nd542 : ∀ (ac : Act) (wo : World) (bk431 : Nat) (bk462 : Nat), Env ac 80 [(1, pt bk1), (2, .bool false), (3, .bool true), (11, .slice (some ⟨bk431, 0, none⟩) 0 0), (13, .slice a_lc (List.length lc) c_lc), (16, .slice (some ⟨bk462, 0, none⟩) 1 1), (20, .int .i64 ((List.length lc : Nat) : Int))] → Ev w [] wo [.box bk1 [uv64 la, .string (bstr lb), .slice a_lc (List.length lc) c_lc] 25, .vec (some ⟨bk431, 0, none⟩) 0 4 (List.flatMap fPair ([] : List (RPair))) 35, .vec (some ⟨bk462, 0, none⟩) 1 4 (List.flatMap fPair ([([108, 97, 115, 116], false, (0 : UInt64), [], ())] : List (RPair))) 35] → G 4 #[true, true, true, false, true, true, false, true, true, true, false, false] ac wo := by
   intro ac543 wo544 bk431 bk462 En545 Hv546
   refine h_from hG ?_
   refine q_t 3 ?_
   refine op_append (d := some 14) (t := 23) (tx := 23) (ty := 23) (k := 1) (p := 0) (m := List.length lc) (x := .slice a_lc (List.length lc) c_lc) (bytes := 48) En545 (by kernel_rfl) Hv546 rfl rfl (Reads.src (size := 4) (tx := 23) (e' := 35) (by kernel_rfl) (i_lc.ro.ev Hv546).reads (sv_len (f := fPair) (sz := 4) (fun _ => rfl) _) i_lc.nz (flat_one (f := fPair) (fun _ => one_all rfl) _)) (by kernel_rfl) (z := .agg #[.string (bstr []), .bool false, .int .u64 0, .string (bstr [])]) (by kernel_rfl) rfl (by decide) (by omega) (by unfold maxLen; omega) ?_
   intro ac551 wo552 ao547 cp548 En553 Hv554 hnz _
   clear hnz
   rw [← List.flatMap_append] at Hv554
   have ehz549 : 0 + (List.length lc) = List.length (([] : List (RPair)) ++ lc) := (by first | (simp; done) | (simp; omega) | omega)
   rw [ehz549] at En553
   refine ⟨fun _ => Hv554.pick [0] (by kernel_rfl) (by decide), ?_⟩
   refine q_t 6 ?_
   refine op_append (d := some 17) (t := 23) (tx := 23) (ty := 23) (k := 1) (p := List.length (([] : List (RPair)) ++ lc)) (m := 1) (x := .slice (some ⟨bk462, 0, none⟩) 1 1) (bytes := 48) En553 (by kernel_rfl) Hv554 rfl (sv_len (f := fPair) (sz := 4) (fun _ => rfl) _) (Reads.src (size := 4) (tx := 23) (e' := 35) (by kernel_rfl) (Hv554.heap.reads (k := 2) rfl) rfl (fun e => by cases e) (flat_one (f := fPair) (fun _ => one_all rfl) _)) (by kernel_rfl) (z := .agg #[.string (bstr []), .bool false, .int .u64 0, .string (bstr [])]) (by kernel_rfl) rfl (by decide) (by omega) (by unfold maxLen; omega) ?_
   intro ac559 wo560 ao555 cp556 En561 Hv562 hnz _
   clear hnz
   rw [← List.flatMap_append] at Hv562
   have ehz557 : (List.length (([] : List (RPair)) ++ lc)) + 1 = List.length ((([] : List (RPair)) ++ lc) ++ ([([108, 97, 115, 116], false, (0 : UInt64), [], ())] : List (RPair))) := (by first | (simp; done) | (simp; omega) | omega)
   rw [ehz557] at En561
   refine ⟨fun _ => Hv562.pick [0] (by kernel_rfl) (by decide), ?_⟩
   refine q_t 10 ?_
   have hcap563 := sv_vcap (f := fPair) (sz := 4) Hv562.heap (k := 1) rfl (fun _ => rfl) (by decide)
   refine op_slice0 (d := some 21) (t := 23) (e := 35) (sz := 4) (len := List.length ((([] : List (RPair)) ++ lc) ++ ([([108, 97, 115, 116], false, (0 : UInt64), [], ())] : List (RPair)))) (cap := cp556) (hi := List.length lc) (ao := ao555) (lov := none) (hiv := (some (.int .i64 ((List.length lc : Nat) : Int)))) En561 (by kernel_rfl) (by kernel_rfl) (by kernel_rfl) (by omega) (.inl ⟨rfl, rfl⟩) (.inr ⟨.i64, rfl⟩) ?_
   intro ac564 En565
   refine ⟨fun _ => Hv562.pick [0] (by kernel_rfl) (by decide), ?_⟩
   refine q_s [11] [] 0 En565 (Hv562.pick [0] (by kernel_rfl) (by decide)) fun ac566 En567 => ?_
   exact h_e ⟨ao555, cp556, En567.sub (by kernel_rfl), Hv562.pick [0, 1] (by kernel_rfl) (by decide)⟩
  have nd568 : ∀ (ac : Act) (wo : World) (bk431 : Nat), Env ac 80 [(1, pt bk1), (2, .bool false), (3, .bool true), (11, .slice (some ⟨bk431, 0, none⟩) 0 0), (13, .slice a_lc (List.length lc) c_lc), (15, .agg #[.string (bstr [108, 97, 115, 116]), .bool false, .int .u64 0, .string (bstr [])]), (20, .int .i64 ((List.length lc : Nat) : Int))] → Ev w [] wo [.box bk1 [uv64 la, .string (bstr lb), .slice a_lc (List.length lc) c_lc] 25, .vec (some ⟨bk431, 0, none⟩) 0 4 (List.flatMap fPair ([] : List (RPair))) 35] → G 5 #[true, true, true, false, true, false, false, true, true, true, false, false] ac wo := by
   intro ac569 wo570 bk431 En571 Hv572
   refine h_from hG ?_
   refine h_ways [3, 5] (by kernel_rfl) rfl ?_
   refine ⟨?_, ?_, trivial⟩
   ·
    rintro _ rfl
    refine op_append (d := some 14) (t := 23) (tx := 23) (ty := 23) (k := 1) (p := 0) (m := List.length lc) (x := .slice a_lc (List.length lc) c_lc) (bytes := 48) En571 (by kernel_rfl) Hv572 rfl rfl (Reads.src (size := 4) (tx := 23) (e' := 35) (by kernel_rfl) (i_lc.ro.ev Hv572).reads (sv_len (f := fPair) (sz := 4) (fun _ => rfl) _) i_lc.nz (flat_one (f := fPair) (fun _ => one_all rfl) _)) (by kernel_rfl) (z := .agg #[.string (bstr []), .bool false, .int .u64 0, .string (bstr [])]) (by kernel_rfl) rfl (by decide) (by omega) (by unfold maxLen; omega) ?_
    intro ac577 wo578 ao573 cp574 En579 Hv580 hnz _
    clear hnz
    rw [← List.flatMap_append] at Hv580
    have ehz575 : 0 + (List.length lc) = List.length (([] : List (RPair)) ++ lc) := (by first | (simp; done) | (simp; omega) | omega)
    rw [ehz575] at En579
    refine ⟨fun _ => Hv580.pick [0] (by kernel_rfl) (by decide), ?_⟩
    exact h_to hG (by kernel_rfl) (nd519 _ _ ao573 cp574 (En579.sub (by kernel_rfl)) (Hv580.pick [0, 1] (by kernel_rfl) (by decide)))
   ·
    rintro _ rfl
    refine op_lit (d := some 16) (t := 23) (T := 35) (m := 1) (parts := #[(0, .agg #[.string (bstr [108, 97, 115, 116]), .bool false, .int .u64 0, .string (bstr [])])]) (xs := List.flatMap fPair ([([108, 97, 115, 116], false, (0 : UInt64), [], ())] : List (RPair))) (sz := 4) En571 (by kernel_rfl) (by kernel_rfl) rfl (by decide) Hv572 ?_
    intro ac582 wo583 bk581 En584 Hv585
    refine ⟨fun _ => Hv585.pick [0] (by kernel_rfl) (by decide), ?_⟩
    exact h_to hG (by kernel_rfl) (nd542 _ _ bk431 bk581 (En584.sub (by kernel_rfl)) (Hv585.pick [0, 1, 2] (by kernel_rfl) (by decide)))
  have nd586 : ∀ (ac : Act) (wo : World) (bk488 : Nat), Env ac 80 [(1, pt bk1), (2, .bool false), (3, .bool true), (13, .slice a_lc (List.length lc) c_lc), (16, .slice (some ⟨bk488, 0, none⟩) 1 1), (20, .int .i64 ((List.length lc : Nat) : Int))] → Ev w [] wo [.box bk1 [uv64 la, .string (bstr lb), .slice a_lc (List.length lc) c_lc] 25, .vec (some ⟨bk488, 0, none⟩) 1 4 (List.flatMap fPair ([([108, 97, 115, 116], false, (0 : UInt64), [], ())] : List (RPair))) 35] → G 5 #[false, true, true, false, true, true, false, true, true, true, false, false] ac wo := by
   intro ac587 wo588 bk488 En589 Hv590
   refine h_from hG ?_
   refine q_t 0 ?_
   refine op_lit (d := some 11) (t := 23) (T := 35) (m := 0) (parts := #[]) (xs := List.flatMap fPair ([] : List (RPair))) (sz := 4) En589 (by kernel_rfl) (by kernel_rfl) rfl (by decide) Hv590 ?_
   intro ac592 wo593 bk591 En594 Hv595
   refine ⟨fun _ => Hv595.pick [0] (by kernel_rfl) (by decide), ?_⟩
   refine q_t 3 ?_
   refine op_append (d := some 14) (t := 23) (tx := 23) (ty := 23) (k := 2) (p := 0) (m := List.length lc) (x := .slice a_lc (List.length lc) c_lc) (bytes := 48) En594 (by kernel_rfl) Hv595 rfl rfl (Reads.src (size := 4) (tx := 23) (e' := 35) (by kernel_rfl) (i_lc.ro.ev Hv595).reads (sv_len (f := fPair) (sz := 4) (fun _ => rfl) _) i_lc.nz (flat_one (f := fPair) (fun _ => one_all rfl) _)) (by kernel_rfl) (z := .agg #[.string (bstr []), .bool false, .int .u64 0, .string (bstr [])]) (by kernel_rfl) rfl (by decide) (by omega) (by unfold maxLen; omega) ?_
   intro ac600 wo601 ao596 cp597 En602 Hv603 hnz _
   clear hnz
   rw [← List.flatMap_append] at Hv603
   have ehz598 : 0 + (List.length lc) = List.length (([] : List (RPair)) ++ lc) := (by first | (simp; done) | (simp; omega) | omega)
   rw [ehz598] at En602
   refine ⟨fun _ => Hv603.pick [0] (by kernel_rfl) (by decide), ?_⟩
   refine q_t 6 ?_
   refine op_append (d := some 17) (t := 23) (tx := 23) (ty := 23) (k := 2) (p := List.length (([] : List (RPair)) ++ lc)) (m := 1) (x := .slice (some ⟨bk488, 0, none⟩) 1 1) (bytes := 48) En602 (by kernel_rfl) Hv603 rfl (sv_len (f := fPair) (sz := 4) (fun _ => rfl) _) (Reads.src (size := 4) (tx := 23) (e' := 35) (by kernel_rfl) (Hv603.heap.reads (k := 1) rfl) rfl (fun e => by cases e) (flat_one (f := fPair) (fun _ => one_all rfl) _)) (by kernel_rfl) (z := .agg #[.string (bstr []), .bool false, .int .u64 0, .string (bstr [])]) (by kernel_rfl) rfl (by decide) (by omega) (by unfold maxLen; omega) ?_
   intro ac608 wo609 ao604 cp605 En610 Hv611 hnz _
   clear hnz
   rw [← List.flatMap_append] at Hv611
   have ehz606 : (List.length (([] : List (RPair)) ++ lc)) + 1 = List.length ((([] : List (RPair)) ++ lc) ++ ([([108, 97, 115, 116], false, (0 : UInt64), [], ())] : List (RPair))) := (by first | (simp; done) | (simp; omega) | omega)
   rw [ehz606] at En610
   refine ⟨fun _ => Hv611.pick [0] (by kernel_rfl) (by decide), ?_⟩
   refine q_t 10 ?_
   have hcap612 := sv_vcap (f := fPair) (sz := 4) Hv611.heap (k := 2) rfl (fun _ => rfl) (by decide)
   refine op_slice0 (d := some 21) (t := 23) (e := 35) (sz := 4) (len := List.length ((([] : List (RPair)) ++ lc) ++ ([([108, 97, 115, 116], false, (0 : UInt64), [], ())] : List (RPair)))) (cap := cp605) (hi := List.length lc) (ao := ao604) (lov := none) (hiv := (some (.int .i64 ((List.length lc : Nat) : Int)))) En610 (by kernel_rfl) (by kernel_rfl) (by kernel_rfl) (by omega) (.inl ⟨rfl, rfl⟩) (.inr ⟨.i64, rfl⟩) ?_
   intro ac613 En614
   refine ⟨fun _ => Hv611.pick [0] (by kernel_rfl) (by decide), ?_⟩
   refine q_s [11] [] 0 En614 (Hv611.pick [0] (by kernel_rfl) (by decide)) fun ac615 En616 => ?_
   exact h_e ⟨ao604, cp605, En616.sub (by kernel_rfl), Hv611.pick [0, 2] (by kernel_rfl) (by decide)⟩
  refine h_from hG ?_
  refine q_s [1] [] 11 En16 (wo17.pick [0] (by kernel_rfl) (by decide)) fun ac617 En618 => ?_
  refine q_l 0 2 En618 (wo17.pick [0] (by kernel_rfl) (by decide)) fun ac619 En620 => ?_
  refine q_s [4,7] [] 8 En620 (wo17.pick [0] (by kernel_rfl) (by decide)) fun ac621 En622 => ?_
  refine q_l 0 8 En622 (wo17.pick [0] (by kernel_rfl) (by decide)) fun ac623 En624 => ?_
  refine q_s [9] [] 6 En624 (wo17.pick [0] (by kernel_rfl) (by decide)) fun ac625 En626 => ?_
  refine h_ways [0, 5] (by kernel_rfl) rfl ?_
  refine ⟨?_, ?_, trivial⟩
  ·
   rintro _ rfl
   refine op_lit (d := some 11) (t := 23) (T := 35) (m := 0) (parts := #[]) (xs := List.flatMap fPair ([] : List (RPair))) (sz := 4) En626 (by kernel_rfl) (by kernel_rfl) rfl (by decide) wo17 ?_
   intro ac628 wo629 bk627 En630 Hv631
   refine ⟨fun _ => Hv631.pick [0] (by kernel_rfl) (by decide), ?_⟩
   exact h_to hG (by kernel_rfl) (nd568 _ _ bk627 (En630.sub (by kernel_rfl)) (Hv631.pick [0, 1] (by kernel_rfl) (by decide)))
  ·
   rintro _ rfl
   refine op_lit (d := some 16) (t := 23) (T := 35) (m := 1) (parts := #[(0, .agg #[.string (bstr [108, 97, 115, 116]), .bool false, .int .u64 0, .string (bstr [])])]) (xs := List.flatMap fPair ([([108, 97, 115, 116], false, (0 : UInt64), [], ())] : List (RPair))) (sz := 4) En626 (by kernel_rfl) (by kernel_rfl) rfl (by decide) wo17 ?_
   intro ac633 wo634 bk632 En635 Hv636
   refine ⟨fun _ => Hv636.pick [0] (by kernel_rfl) (by decide), ?_⟩
   exact h_to hG (by kernel_rfl) (nd586 _ _ bk632 (En635.sub (by kernel_rfl)) (Hv636.pick [0, 1] (by kernel_rfl) (by decide)))
 rintro ac637 wo638 ⟨ao449, cp450, En639, Hv640⟩
 refine then_normal ?_
 refine wp_seq ?_
 refine region_from ?_
 refine d_k [1,2,3,4,23] [] 1 En639 fun ac641 En642 => ?_
 refine f_o ?_
 refine m_l 0 En642 Hv640 fun ac643 En644 => ?_
 refine d_k [1,2,3,4,24,25] [] 3 En644 fun ac645 En646 => ?_
 refine f_o ?_
 refine m_l 0 En646 Hv640 fun ac647 En648 => ?_
 refine d_k [1,2,3,4,28] [] 6 En648 fun ac649 En650 => ?_
 refine f_o ?_
 refine c_p En650 Hv640 (enc_go _ la lb (by assumption) ao449 cp450 lc (own_in Hv640.heap (k := 1) rfl hzl i_lc.each) ((gt.ev Hv640).nil)) fun ac655 wo652 En656 Hv657 => ?_
 refine d_e [1,2,3,4,5,6] [] En656 fun ac658 En659 => ?_
 refine then_normal ?_
 refine wp_seq ?_
 refine region_from ?_
 refine f_o ?_
 refine m_a 0 0 3 [uv64 la, .string (bstr lb), .slice a_lc (List.length lc) c_lc] En659 Hv657 rfl rfl rfl fun ac660 En661 => ?_
 refine f_o ?_
 refine c_p En661 Hv657 (denc_go _ la lb (by first | assumption | omega) a_lc c_lc lc (i_lc.go Hv657 [] (by kernel_rfl) (fun _ h => ⟨h.1, h.2.1, h.2.2.1, h.2.2.2.1, h.2.2.2.2⟩)) ((gt.ev Hv657).nil)) fun ac666 wo663 En667 Hv668 => ?_
 refine d_e [1,2,3,4,5,6,7,8] [] En667 fun ac669 En670 => ?_
 refine then_normal ?_
 refine wp_seq ?_
 refine wp_seq ?_
 refine d_r [1,2,3,4,5,6,7,8,9] [] En670 fun ac671 En672 => ?_
 refine then_normal ?_
 refine wp_block ?_
 refine loop_m (fun ms673 ac wo => ∃ (i : Nat), ms673 = (List.length lc - i : Nat) ∧ Env ac 80 [(1, pt bk1), (3, .bool true), (4, .slice ao449 (List.length lc) cp450), (5, .string (bstr ((encL la lb lc).1))), (6, .int .i64 ((encL la lb lc).2)), (7, .string (bstr ((encL la lb lc).1))), (8, .int .i64 ((encL la lb lc).2)), (9, ni i)] ∧ Ev w [] wo [.box bk1 [uv64 la, .string (bstr lb), .slice a_lc (List.length lc) c_lc] 25, .vec ao449 cp450 4 (List.flatMap fPair ((([] : List (RPair)) ++ lc) ++ ([([108, 97, 115, 116], false, (0 : UInt64), [], ())] : List (RPair)))) 35] ∧ (i ≤ List.length lc)) ⟨_, 0, rfl, En672.sub (by kernel_rfl), Hv668.pick [0, 1] (by kernel_rfl) (by decide), (Nat.zero_le _)⟩ ?_
 rintro mm679 ac675 wo676 ⟨i, rfl, En677, Hv678, hil⟩
 refine wp_seq ?_
 refine wp_seq ?_
 refine region_from ?_
 refine d_k [1,3,4,5,6,7,8,9,37,38] [] 2 En677 fun ac680 En681 => ?_
 refine f_o ?_
 refine m_l 0 En681 Hv678 fun ac682 En683 => ?_
 refine d_e [1,3,4,5,6,7,8,9,41] [] En683 fun ac684 En685 => ?_
 refine then_normal ?_
 refine c_d (((i : Nat) : Int) < ((List.length lc : Nat) : Int)) En685 (fun hc686 => ?_) (fun hc686 => ?_)
 ·
  refine wp_skip ?_
  refine then_normal ?_
  refine wp_seq ?_
  refine wp_block ?_
  refine wp_seq ?_
  have hb687 : i < List.length lc := by omega
  obtain ⟨⟨x689a, x689b, x689c, x689d, _⟩, hx688⟩ : ∃ x, (lc)[i]? = some x := ⟨_, List.getElem?_eq_getElem hb687⟩
  obtain ⟨s_x689a, _, _, s_x689d, _⟩ := i_lc.each _ (List.mem_of_getElem? hx688)
  replace s_x689a : (List.length x689a ≤ 140737488351232) := s_x689a
  replace s_x689d : (List.length x689d ≤ 140737488351232) := s_x689d
  have hxo690 : ((([] : List (RPair)) ++ lc) ++ ([([108, 97, 115, 116], false, (0 : UInt64), [], ())] : List (RPair)))[i]? = some (x689a, x689b, x689c, x689d, ()) := (List.getElem?_append_left (List.getElem?_eq_some_iff.1 hx688).1).trans hx688
  refine r_c (fun ac wo => Env ac 80 [(1, pt bk1), (3, .bool true), (4, .slice ao449 (List.length lc) cp450), (5, .string (bstr ((encL la lb lc).1))), (6, .int .i64 ((encL la lb lc).2)), (7, .string (bstr ((encL la lb lc).1))), (8, .int .i64 ((encL la lb lc).2)), (9, ni i), (53, .bool (!((x689a == x689a) && ((x689b == x689b) && ((x689c == x689c) && (x689d == x689d))))))] ∧ Ev w [] wo [.box bk1 [uv64 la, .string (bstr lb), .slice a_lc (List.length lc) c_lc] 25, .vec ao449 cp450 4 (List.flatMap fPair ((([] : List (RPair)) ++ lc) ++ ([([108, 97, 115, 116], false, (0 : UInt64), [], ())] : List (RPair)))) 35]) ?_ ?_
  ·
   refine h_s (fun wv => Ev w [] wv [.box bk1 [uv64 la, .string (bstr lb), .slice a_lc (List.length lc) c_lc] 25, .vec ao449 cp450 4 (List.flatMap fPair ((([] : List (RPair)) ++ lc) ++ ([([108, 97, 115, 116], false, (0 : UInt64), [], ())] : List (RPair)))) 35]) [] 10 ?_
   have wo691 := Hv678.trans (Ev.drew Hv678.heap)
   have hb759 : i < List.length lc := (by omega)
   obtain ⟨adr757, had758⟩ := some_of (fun e => by have h := (sv_nz (f := fPair) (sz := 4) wo691.heap (k := 1) rfl (fun _ => rfl) (by decide)) e; omega) hb759
   refine q_s [0,1] [] 8 En685 (wo691.pick [0, 1] (by kernel_rfl) (by decide)) fun ac760 En761 => ?_
   refine q_f 2 (s := Instr.indexAt 23 (.slice ao449 (List.length lc) cp450) (ni i)) (v := .pointer (some (Addr.add adr757 (i * 4)))) En761 (fun _ => Go.Dbr.run_indexsl (e := 35) (sz := 4) (j := i) (jo := i * 4) had758 (by kernel_rfl) (by kernel_rfl) (by omega) hb759 rfl _) (fun _ => wo691.pick [0, 1] (by kernel_rfl) (by decide)) fun ac762 En763 => ?_
   refine q_r 3 (s := Instr.loadAt 35 (.pointer (some (Addr.add adr757 (i * 4))))) (v := .agg #[.string (bstr x689a), .bool x689b, uv64 x689c, .string (bstr x689d)]) En763 (fun w hS => run_loadaggat (ad := adr757) (o := i * 4) (m := 4) (xs := [.string (bstr x689a), .bool x689b, uv64 x689c, .string (bstr x689d)]) rfl (hS.heap.reads (k := 1) rfl) had758 (fun j hj => flat_sub (sz := 4) (off := 0) (m := 4) (fun _ _ => rfl) hxo690 (by decide) rfl j hj) rfl (by kernel_rfl) (by kernel_rfl)) (wo691.pick [0, 1] (by kernel_rfl) (by decide)) fun ac764 En765 => ?_
   refine q_s [4] [] 5 En765 (wo691.pick [0, 1] (by kernel_rfl) (by decide)) fun ac766 En767 => ?_
   refine q_l 0 5 En767 (wo691.pick [0, 1] (by kernel_rfl) (by decide)) fun ac768 En769 => ?_
   have hb772 : i < List.length lc := (by omega)
   obtain ⟨adr770, had771⟩ := some_of i_lc.nz hb772
   refine q_s [6] [] 3 En769 (wo691.pick [0, 1] (by kernel_rfl) (by decide)) fun ac773 En774 => ?_
   refine q_f 7 (s := Instr.indexAt 23 (.slice a_lc (List.length lc) c_lc) (ni i)) (v := .pointer (some (Addr.add adr770 (i * 4)))) En774 (fun _ => Go.Dbr.run_indexsl (e := 35) (sz := 4) (j := i) (jo := i * 4) had771 (by kernel_rfl) (by kernel_rfl) (by omega) hb772 rfl _) (fun _ => wo691.pick [0, 1] (by kernel_rfl) (by decide)) fun ac775 En776 => ?_
   refine q_r 8 (s := Instr.loadAt 35 (.pointer (some (Addr.add adr770 (i * 4))))) (v := .agg #[.string (bstr x689a), .bool x689b, uv64 x689c, .string (bstr x689d)]) En776 (fun w hS => run_loadaggat (ad := adr770) (o := i * 4) (m := 4) (xs := [.string (bstr x689a), .bool x689b, uv64 x689c, .string (bstr x689d)]) rfl (i_lc.ro.ev hS).reads had771 (fun j hj => flat_sub (sz := 4) (off := 0) (m := 4) (fun _ _ => rfl) hx688 (by decide) rfl j hj) rfl (by kernel_rfl) (by kernel_rfl)) (wo691.pick [0, 1] (by kernel_rfl) (by decide)) fun ac777 En778 => ?_
   refine q_f 9 (s := eqOp .neq 35 (.tmp 47) (.tmp 52) (.agg #[.string (bstr x689a), .bool x689b, uv64 x689c, .string (bstr x689d)]) (.agg #[.string (bstr x689a), .bool x689b, uv64 x689c, .string (bstr x689d)])) (v := .bool (!((x689a == x689a) && ((x689b == x689b) && ((x689c == x689c) && (x689d == x689d)))))) En778 (fun _ => pair_neq _) (fun _ => wo691.pick [0, 1] (by kernel_rfl) (by decide)) fun ac779 En780 => ?_
   exact h_e ⟨En780.sub (by kernel_rfl), wo691.pick [0, 1] (by kernel_rfl) (by decide)⟩
  rintro ac781 wo782 ⟨En783, Hv784⟩
  refine then_normal ?_
  refine cond_at En783 (t := !((x689a == x689a) && ((x689b == x689b) && ((x689c == x689c) && (x689d == x689d))))) (by kernel_rfl) (fun hc785 => ?_) (fun hc785 => ?_)
  ·
   replace hc785 : ¬ (x689a = x689a ∧ x689b = x689b ∧ x689c = x689c ∧ x689d = x689d) := by first | (simp at hc785; done) | (simp; done) | simpa using hc785
   refine wp_seq ?_
   refine d_r [1,2,3,4,5,6,7,8,9] [] En783 fun ac786 En787 => ?_
   refine then_normal ?_
   refine wp_ret ?_
   refine block_ret ?_
   refine then_ret ?_
   refine then_ret ?_
   refine block_ret ?_
   refine then_ret ?_
   refine d_ret1 (t := 2) (v := .bool false) En787 (by kernel_rfl) (by kernel_rfl) ?_
   first | contradiction | exact absurd ⟨rfl, rfl, rfl, rfl⟩ hc785
  ·
   replace hc785 : x689a = x689a ∧ x689b = x689b ∧ x689c = x689c ∧ x689d = x689d := by first | (simp at hc785; done) | (simp; done) | simpa using hc785
   refine wp_skip ?_
   refine block_normal ?_
   refine then_normal ?_
   refine d_r [1,3,4,5,6,7,8,9] [(1, g_n (w_a i 1))] En783 fun ac788 En789 => ?_
   refine then_normal ?_
   refine ⟨_, ⟨i + 1, rfl, En789.sub (by kernel_rfl), Hv784.pick [0, 1] (by kernel_rfl) (by decide), (by omega)⟩, ?_⟩
   omega
 ·
  refine wp_exit ?_
  refine then_exit ?_
  refine then_exit ?_
  refine block_exit ?_
  refine then_normal ?_
  refine wp_seq ?_
  have hxo790 : ((([] : List (RPair)) ++ lc) ++ ([([108, 97, 115, 116], false, (0 : UInt64), [], ())] : List (RPair)))[List.length lc]? = some (([108, 97, 115, 116] : Bs), false, (0 : UInt64), ([] : Bs), ()) := List.getElem?_concat_length
  rcases Bool.eq_false_or_eq_true (((encL la lb lc).1) == ((encL la lb lc).1)) with hb791 | hb791
  ·
   have hb791p : ((encL la lb lc).1) = ((encL la lb lc).1) := eq_of_beq hb791
   rcases Bool.eq_false_or_eq_true ((encL la lb lc).2 == (encL la lb lc).2) with hb792 | hb792
   ·
    have hb792p : (encL la lb lc).2 = (encL la lb lc).2 := eq_of_beq hb792
    refine r_c (fun ac wo => Env ac 80 [(1, pt bk1), (2, .bool ([108, 97, 115, 116] == [108, 97, 115, 116])), (4, .slice ao449 (List.length lc) cp450), (9, ni i)] ∧ Ev w [] wo [.box bk1 [uv64 la, .string (bstr lb), .slice a_lc (List.length lc) c_lc] 25, .vec ao449 cp450 4 (List.flatMap fPair ((([] : List (RPair)) ++ lc) ++ ([([108, 97, 115, 116], false, (0 : UInt64), [], ())] : List (RPair)))) 35]) ?_ ?_
    ·
     refine h_s (fun wv => Ev w [] wv [.box bk1 [uv64 la, .string (bstr lb), .slice a_lc (List.length lc) c_lc] 25, .vec ao449 cp450 4 (List.flatMap fPair ((([] : List (RPair)) ++ lc) ++ ([([108, 97, 115, 116], false, (0 : UInt64), [], ())] : List (RPair)))) 35]) [] 27 ?_
     have wo793 := Hv678.trans (Ev.drew Hv678.heap)
     refine q_s [0,1,2,3,4,5,6] [(4, g_v (show (.bool (ByteArray.toList (bstr ((encL la lb lc).1)) == ByteArray.toList (bstr ((encL la lb lc).1))) : Value) = .bool (((encL la lb lc).1) == ((encL la lb lc).1)) by rw [Go.Dbr.bstr_eq ((encL la lb lc).1) ((encL la lb lc).1)] <;> rfl))] 20 En685 (wo793.pick [0, 1] (by kernel_rfl) (by decide)) fun ac902 En903 => ?_
     have En904 := En903.fx (t := 58) (congrArg Value.bool hb791)
     have En905 := En904.fx (t := 59) (congrArg Value.bool hb791)
     have En906 := En905.fx (t := 60) (congrArg Value.bool hb791)
     refine q_s [7,8,9,10,11] [] 15 En906 (wo793.pick [0, 1] (by kernel_rfl) (by decide)) fun ac907 En908 => ?_
     have En909 := En908.fx (t := 63) (congrArg Value.bool hb792)
     have En910 := En909.fx (t := 64) (congrArg Value.bool hb792)
     have En911 := En910.fx (t := 65) (congrArg Value.bool hb792)
     refine q_s [12,13] [] 13 En911 (wo793.pick [0, 1] (by kernel_rfl) (by decide)) fun ac912 En913 => ?_
     refine q_l 0 14 En913 (wo793.pick [0, 1] (by kernel_rfl) (by decide)) fun ac914 En915 => ?_
     refine q_s [15,16,18] [(16, g_n (w_a (List.length lc) 1))] 9 En915 (wo793.pick [0, 1] (by kernel_rfl) (by decide)) fun ac916 En917 => ?_
     refine q_l 0 19 En917 (wo793.pick [0, 1] (by kernel_rfl) (by decide)) fun ac918 En919 => ?_
     refine q_s [20] [] 7 En919 (wo793.pick [0, 1] (by kernel_rfl) (by decide)) fun ac920 En921 => ?_
     refine q_t 17 ?_
     have hcap922 := sv_vcap (f := fPair) (sz := 4) wo793.heap (k := 1) rfl (fun _ => rfl) (by decide)
     refine op_slice0 (d := some 71) (t := 23) (e := 35) (sz := 4) (len := List.length lc) (cap := cp450) (hi := (List.length lc) + 1) (ao := ao449) (lov := none) (hiv := (some (.int .i64 (((List.length lc) + 1 : Nat) : Int)))) En921 (by kernel_rfl) (by kernel_rfl) (by kernel_rfl) (by omega) (.inl ⟨rfl, rfl⟩) (.inr ⟨.i64, rfl⟩) ?_
     intro ac923 En924
     refine ⟨fun _ => wo793.pick [0, 1] (by kernel_rfl) (by decide), ?_⟩
     have hb927 : List.length lc < (List.length lc) + 1 := (by omega)
     obtain ⟨adr925, had926⟩ := some_of (fun e => by have h := (sv_nz (f := fPair) (sz := 4) wo793.heap (k := 1) rfl (fun _ => rfl) (by decide)) e; omega) hb927
     refine q_f 21 (s := Instr.indexAt 23 (.slice ao449 ((List.length lc) + 1) cp450) (.int .i64 ((List.length lc : Nat) : Int))) (v := .pointer (some (Addr.add adr925 ((List.length lc) * 4)))) En924 (fun _ => Go.Dbr.run_indexsl (e := 35) (sz := 4) (j := List.length lc) (jo := (List.length lc) * 4) had926 (by kernel_rfl) (by kernel_rfl) (by omega) hb927 rfl _) (fun _ => wo793.pick [0, 1] (by kernel_rfl) (by decide)) fun ac928 En929 => ?_
     refine q_s [22] [] 4 En929 (wo793.pick [0, 1] (by kernel_rfl) (by decide)) fun ac930 En931 => ?_
     refine q_r 23 (s := Instr.loadAt 9 (.pointer (some (Addr.add adr925 ((List.length lc) * 4))))) (v := .string (bstr [108, 97, 115, 116])) En931 (fun w hS => run_loadel (ad := adr925) (o := (List.length lc) * 4) rfl (hS.heap.reads (k := 1) rfl) had926 ((flat_get (sz := 4) (j := 0) (fun _ _ => rfl) hxo790 (by decide)).trans rfl) (by kernel_rfl)) (wo793.pick [0, 1] (by kernel_rfl) (by decide)) fun ac932 En933 => ?_
     refine q_s [24,25,26] [(24, g_v (show (.bool (ByteArray.toList (bstr [108, 97, 115, 116]) == ByteArray.toList (bstr [108, 97, 115, 116])) : Value) = .bool ([108, 97, 115, 116] == [108, 97, 115, 116]) by rw [Go.Dbr.bstr_eq [108, 97, 115, 116] [108, 97, 115, 116]] <;> rfl))] 0 En933 (wo793.pick [0, 1] (by kernel_rfl) (by decide)) fun ac934 En935 => ?_
     exact h_e ⟨En935.sub (by kernel_rfl), wo793.pick [0, 1] (by kernel_rfl) (by decide)⟩
    rintro ac936 wo937 ⟨En938, Hv939⟩
    refine then_normal ?_
    refine wp_ret ?_
    refine d_ret1 (t := 2) (v := .bool ([108, 97, 115, 116] == [108, 97, 115, 116])) En938 (by kernel_rfl) (by kernel_rfl) ?_
    refine ⟨congrArg (fun z => Ending.returned (Value.bool z)) ?_, Hv939.pick [] (by kernel_rfl) (by decide)⟩
    first | rfl | simp
   ·
    have hb792p : ¬ ((encL la lb lc).2 = (encL la lb lc).2) := ne_of_beq_false hb792
    refine r_c (fun ac wo => Env ac 80 [(1, pt bk1), (2, .bool false), (4, .slice ao449 (List.length lc) cp450), (9, ni i)] ∧ Ev w [] wo [.box bk1 [uv64 la, .string (bstr lb), .slice a_lc (List.length lc) c_lc] 25, .vec ao449 cp450 4 (List.flatMap fPair ((([] : List (RPair)) ++ lc) ++ ([([108, 97, 115, 116], false, (0 : UInt64), [], ())] : List (RPair)))) 35]) ?_ ?_
    ·
     refine draw_any (by kernel_rfl) 27 (by kernel_rfl) ?_
     have wo940 := Hv678.trans (Ev.drew Hv678.heap)
     refine q_a [0,1,2,3,4,5,6] [(4, g_v (show (.bool (ByteArray.toList (bstr ((encL la lb lc).1)) == ByteArray.toList (bstr ((encL la lb lc).1))) : Value) = .bool (((encL la lb lc).1) == ((encL la lb lc).1)) by rw [Go.Dbr.bstr_eq ((encL la lb lc).1) ((encL la lb lc).1)] <;> rfl))] 20 En685 fun ac953 En954 => ?_
     have En955 := En954.fx (t := 58) (congrArg Value.bool hb791)
     have En956 := En955.fx (t := 59) (congrArg Value.bool hb791)
     have En957 := En956.fx (t := 60) (congrArg Value.bool hb791)
     refine q_a [7,8,9,10,11] [] 15 En957 fun ac958 En959 => ?_
     have En960 := En959.fx (t := 63) (congrArg Value.bool hb792)
     have En961 := En960.fx (t := 64) (congrArg Value.bool hb792)
     have En962 := En961.fx (t := 65) (congrArg Value.bool hb792)
     refine q_a [12,13,14,15,16,17,18,19,20,21,22,23,24,25,26] [] 0 En962 fun ac963 En964 => ?_
     exact a_e ⟨En964.sub (by kernel_rfl), wo940.pick [0, 1] (by kernel_rfl) (by decide)⟩
    rintro ac965 wo966 ⟨En967, Hv968⟩
    refine then_normal ?_
    refine wp_ret ?_
    refine d_ret1 (t := 2) (v := .bool false) En967 (by kernel_rfl) (by kernel_rfl) ?_
    first | contradiction | exact absurd ⟨rfl, rfl, rfl, rfl⟩ hb792
  ·
   have hb791p : ¬ (((encL la lb lc).1) = ((encL la lb lc).1)) := ne_of_beq_false hb791
   refine r_c (fun ac wo => Env ac 80 [(1, pt bk1), (2, .bool false), (4, .slice ao449 (List.length lc) cp450), (9, ni i)] ∧ Ev w [] wo [.box bk1 [uv64 la, .string (bstr lb), .slice a_lc (List.length lc) c_lc] 25, .vec ao449 cp450 4 (List.flatMap fPair ((([] : List (RPair)) ++ lc) ++ ([([108, 97, 115, 116], false, (0 : UInt64), [], ())] : List (RPair)))) 35]) ?_ ?_
   ·
    refine draw_any (by kernel_rfl) 27 (by kernel_rfl) ?_
    have wo969 := Hv678.trans (Ev.drew Hv678.heap)
    refine q_a [0,1,2,3,4,5,6] [(4, g_v (show (.bool (ByteArray.toList (bstr ((encL la lb lc).1)) == ByteArray.toList (bstr ((encL la lb lc).1))) : Value) = .bool (((encL la lb lc).1) == ((encL la lb lc).1)) by rw [Go.Dbr.bstr_eq ((encL la lb lc).1) ((encL la lb lc).1)] <;> rfl))] 20 En685 fun ac977 En978 => ?_
    have En979 := En978.fx (t := 58) (congrArg Value.bool hb791)
    have En980 := En979.fx (t := 59) (congrArg Value.bool hb791)
    have En981 := En980.fx (t := 60) (congrArg Value.bool hb791)
    refine q_a [7,8,9,10,11,12,13,14,15,16,17,18,19,20,21,22,23,24,25,26] [] 0 En981 fun ac982 En983 => ?_
    exact a_e ⟨En983.sub (by kernel_rfl), wo969.pick [0, 1] (by kernel_rfl) (by decide)⟩
   rintro ac984 wo985 ⟨En986, Hv987⟩
   refine then_normal ?_
   refine wp_ret ?_
   refine d_ret1 (t := 2) (v := .bool false) En986 (by kernel_rfl) (by kernel_rfl) ?_
   first | contradiction | exact absurd ⟨rfl, rfl, rfl, rfl⟩ hb791

end Go.Proofs.YtfcfgbejpcmmkaaDoor
