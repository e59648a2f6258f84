/- JudgeReplays: its walk. -/
import Derived.Test.YtjecaljhipfbfaaJ12
namespace Go.Proofs.Ytjecaljhipfbfaa
open Go.Dbr
set_option maxRecDepth 100000
set_option maxHeartbeats 2000000
set_option linter.unusedVariables false
set_option linter.unusedSimpArgs false

theorem replays_walk (a_sa : Option Addr) (c_sa : Nat) (sa : List UInt8) (a_sba : Option Addr) (c_sba : Nat) (sba : List UInt8) (a_sbb : Option Addr) (c_sbb : Nat) (sbb : List UInt8) (sbc : Bool) (sbd : Bool) (a_sca : Option Addr) (c_sca : Nat) (sca : List UInt8) (a_scb : Option Addr) (c_scb : Nat) (scb : List UInt8) (scc : Bool) (scd : Bool) (a_m : Option Addr) (c_m : Nat) (m : List UInt8) (w : World) (i_sa : InB w [] a_sa c_sa sa) (i_sba : InB w [] a_sba c_sba sba) (i_sbb : InB w [] a_sbb c_sbb sbb) (i_sca : InB w [] a_sca c_sca sca) (i_scb : InB w [] a_scb c_scb scb) (i_m : InB w [] a_m c_m m) (hB : (List.length sa + ((List.length sba + (List.length sbb + (0 + (0 + (0))))) + ((List.length sca + (List.length scb + (0 + (0 + (0))))) + (0)))) + (List.length m) ≤ 1048576) : Calls Try.prog 7 #[.agg #[.slice a_sa (List.length sa) c_sa, .slice a_sba (List.length sba) c_sba, .slice a_sbb (List.length sbb) c_sbb, .bool sbc, .bool sbd, .slice a_sca (List.length sca) c_sca, .slice a_scb (List.length scb) c_scb, .bool scc, .bool scd], .slice a_m (List.length m) c_m] w fun e w' => e = .returned (.bool true) ∧ Ev w [] w' [] := by
  have sm_ := i_m.small
  have s0_ := i_sa.small
  have s1_ := i_sba.small
  have s2_ := i_sbb.small
  have s5_ := i_sca.small
  have s6_ := i_scb.small
  have c0_ := i_sa.cap
  have c1_ := i_sba.cap
  have c2_ := i_sbb.cap
  have c5_ := i_sca.cap
  have c6_ := i_scb.cap
  refine d_start [(0, .agg #[.slice a_sa (List.length sa) c_sa, .slice a_sba (List.length sba) c_sba, .slice a_sbb (List.length sbb) c_sbb, .bool sbc, .bool sbd, .slice a_sca (List.length sca) c_sca, .slice a_scb (List.length scb) c_scb, .bool scc, .bool scd]), (1, .slice a_m (List.length m) c_m)] 77 Go.Proofs.Try.func7 Go.Proofs.Try.ntmps7 rfl (by kernel_rfl) (by kernel_rfl) ?_
  intro act0 En0
  have Hv0 : Ev w [] w [] := Ev.refl (Heap.nil _)
  refine wp_seq ?_
  refine region_from ?_  -- region 0
  refine from_op (by kernel_rfl) ?_
  refine op_newbox (d := some 2) (T := 26) (v := .agg #[.slice a_sa (List.length sa) c_sa, .slice a_sba (List.length sba) c_sba, .slice a_sbb (List.length sbb) c_sbb, .bool sbc, .bool sbd, .slice a_sca (List.length sca) c_sca, .slice a_scb (List.length scb) c_scb, .bool scc, .bool scd]) (cs := [.slice a_sa (List.length sa) c_sa, .slice a_sba (List.length sba) c_sba, .slice a_sbb (List.length sbb) c_sbb, .bool sbc, .bool sbd, .slice a_sca (List.length sca) c_sca, .slice a_scb (List.length scb) c_scb, .bool scc, .bool scd]) En0 (by kernel_rfl) rfl Hv0 ?_
  intro ac2 wo3 bk1 En4 Hv5
  refine d_pures [(1, .slice a_m (List.length m) c_m), (2, .pointer (some ⟨bk1, 0, none⟩)), (4, .bool false)] [.bool false] 2 En4 (by kernel_rfl) (by kernel_rfl) rfl ?_
  intro ac6 En7
  refine from_end (by kernel_rfl) ?_
  refine then_normal ?_
  refine wp_seq ?_
  refine region_from ?_  -- region 1
  refine from_op (by kernel_rfl) ?_
  have hM8 : Heap wo3 [] := Hv5.heap.pick [] (by kernel_rfl) (by decide)
  refine op_call (d := some 10) (f := 8) (args := #[]) En7 (by kernel_rfl) ((head_ok _).mono ?_)
  rintro _ wo10 ⟨rfl, he13⟩
  refine ⟨_, rfl, ?_⟩
  intro ac9 En11
  have Hv12 : Ev w [] wo10 [.box bk1 [.slice a_sa (List.length sa) c_sa, .slice a_sba (List.length sba) c_sba, .slice a_sbb (List.length sbb) c_sbb, .bool sbc, .bool sbd, .slice a_sca (List.length sca) c_sca, .slice a_scb (List.length scb) c_scb, .bool scc, .bool scd] 26] := Hv5.trans (Ev.call (R := [.box bk1 [.slice a_sa (List.length sa) c_sa, .slice a_sba (List.length sba) c_sba, .slice a_sbb (List.length sbb) c_sbb, .bool sbc, .bool sbd, .slice a_sca (List.length sca) c_sca, .slice a_scb (List.length scb) c_scb, .bool scc, .bool scd] 26]) Hv5.heap [0] (by kernel_rfl) (by decide) he13)
  clear hM8 he13
  refine d_pures [(1, .slice a_m (List.length m) c_m), (2, .pointer (some ⟨bk1, 0, none⟩)), (4, .bool false), (5, .bool true)] [.bool true] 2 En11 (by kernel_rfl) (by kernel_rfl) rfl ?_
  intro ac14 En15
  refine from_end (by kernel_rfl) ?_
  refine then_normal ?_
  refine wp_seq ?_
  by_cases hr : relayF sa sba sbb sbc sbd sca scb scc scd = 0
  ·
    have hok := Rel.ok_of hr
    have hra := begins_le_a hr
    simp only [List.length_append] at hra
    have hrb := begins_le_b hr
    have hla : (sa ++ sba).length = sa.length + sba.length := List.length_append
    have hz0 : Rel.size (Rel.of sa sba sbb sbc sbd sca scb scc scd) ≤ 1048576 := by simp only [Rel.of, Rel.size]; omega
    have hS0 : List.length (List.drop (List.length scb) (sa ++ sba)) + List.length (List.drop (List.length sbb) sca) + List.length sa + List.length sba + List.length sbb + List.length sca + List.length scb ≤ 3 * 1048576 := Rel.sizes hok hz0
    refine region_from ?_  -- region 2
    refine from_op (by kernel_rfl) ?_
    refine op_loadaggbox (d := some 11) (t := 26) (b := bk1) (off := 0) (k := 0) (m := 9) (xs := [.slice a_sa (List.length sa) c_sa, .slice a_sba (List.length sba) c_sba, .slice a_sbb (List.length sbb) c_sbb, .bool sbc, .bool sbd, .slice a_sca (List.length sca) c_sca, .slice a_scb (List.length scb) c_scb, .bool scc, .bool scd]) En15 (by kernel_rfl) Hv12 rfl rfl rfl (by kernel_rfl) (by kernel_rfl) ?_
    intro ac16 En17
    refine from_op (by kernel_rfl) ?_
    have hM19 : Heap wo10 [] := Hv12.heap.pick [] (by kernel_rfl) (by decide)
    refine op_call (d := some 12) (f := 27) (args := #[.agg #[.slice a_sa (List.length sa) c_sa, .slice a_sba (List.length sba) c_sba, .slice a_sbb (List.length sbb) c_sbb, .bool sbc, .bool sbd, .slice a_sca (List.length sca) c_sca, .slice a_scb (List.length scb) c_scb, .bool scc, .bool scd]]) En17 (by kernel_rfl) ((replay_go _ a_sa (List.length sa) c_sa sa (by first | rfl | (simp; done) | (simp; omega) | omega) ((i_sa.ev Hv12).pick [] (by kernel_rfl)) a_sba (List.length sba) c_sba sba (by first | rfl | (simp; done) | (simp; omega) | omega) ((i_sba.ev Hv12).pick [] (by kernel_rfl)) a_sbb (List.length sbb) c_sbb sbb (by first | rfl | (simp; done) | (simp; omega) | omega) ((i_sbb.ev Hv12).pick [] (by kernel_rfl)) sbc sbd a_sca (List.length sca) c_sca sca (by first | rfl | (simp; done) | (simp; omega) | omega) ((i_sca.ev Hv12).pick [] (by kernel_rfl)) a_scb (List.length scb) c_scb scb (by first | rfl | (simp; done) | (simp; omega) | omega) ((i_scb.ev Hv12).pick [] (by kernel_rfl)) scc scd (by first | omega | (simp; done) | (simp; omega)) hr).mono ?_)
    rintro _ wo21 ⟨bq18, auq18, adq18, ahq18, apq18, aqq18, arq18, avq18, cuq18, cdq18, chq18, cpq18, cqq18, crq18, cvq18, rfl, he24⟩
    refine ⟨_, rfl, ?_⟩
    intro ac20 En22
    have Hv23 : Ev w [] wo21 [.box bq18 [.slice auq18 (List.length (List.drop (List.length scb) (sa ++ sba))) cuq18, .bool sbc, .slice adq18 (List.length (List.drop (List.length sbb) sca)) cdq18, .bool scc, .slice ahq18 (List.length sa) chq18, .slice apq18 (List.length sba) cpq18, .slice aqq18 (List.length sbb) cqq18, .bool sbc, .bool sbd, .slice arq18 (List.length sca) crq18, .slice avq18 (List.length scb) cvq18, .bool scc, .bool scd] 66, .vec auq18 cuq18 1 (bys (List.drop (List.length scb) (sa ++ sba))) 5, .vec adq18 cdq18 1 (bys (List.drop (List.length sbb) sca)) 5, .vec ahq18 chq18 1 (bys sa) 5, .vec apq18 cpq18 1 (bys sba) 5, .vec aqq18 cqq18 1 (bys sbb) 5, .vec arq18 crq18 1 (bys sca) 5, .vec avq18 cvq18 1 (bys scb) 5, .box bk1 [.slice a_sa (List.length sa) c_sa, .slice a_sba (List.length sba) c_sba, .slice a_sbb (List.length sbb) c_sbb, .bool sbc, .bool sbd, .slice a_sca (List.length sca) c_sca, .slice a_scb (List.length scb) c_scb, .bool scc, .bool scd] 26] := Hv12.trans (Ev.call (R := [.box bk1 [.slice a_sa (List.length sa) c_sa, .slice a_sba (List.length sba) c_sba, .slice a_sbb (List.length sbb) c_sbb, .bool sbc, .bool sbd, .slice a_sca (List.length sca) c_sca, .slice a_scb (List.length scb) c_scb, .bool scc, .bool scd] 26]) Hv12.heap [0] (by kernel_rfl) (by decide) he24)
    clear hM19 he24
    refine d_pures [(1, .slice a_m (List.length m) c_m), (2, .pointer (some ⟨bk1, 0, none⟩)), (4, .bool false), (5, .bool true), (6, .pointer (some ⟨bq18, 0, none⟩))] [.pointer (some ⟨bq18, 0, none⟩)] 3 En22 (by kernel_rfl) (by kernel_rfl) rfl ?_
    intro ac25 En26
    refine from_end (by kernel_rfl) ?_
    refine then_normal ?_
    refine wp_seq ?_
    refine wp_seq ?_
    refine region_from ?_  -- region 3
    refine d_pures [(1, .slice a_m (List.length m) c_m), (2, .pointer (some ⟨bk1, 0, none⟩)), (4, .bool false), (6, .pointer (some ⟨bq18, 0, none⟩)), (15, .bool false), (17, .bool false)] [.bool true, .bool false, .bool false, .pointer (some ⟨bq18, 0, none⟩), .bool false] 5 En26 (by kernel_rfl) (by kernel_rfl) rfl ?_
    intro ac27 En28
    refine from_op (by kernel_rfl) ?_
    refine op_loadaggbox (d := some 18) (t := 26) (b := bk1) (off := 0) (k := 8) (m := 9) (xs := [.slice a_sa (List.length sa) c_sa, .slice a_sba (List.length sba) c_sba, .slice a_sbb (List.length sbb) c_sbb, .bool sbc, .bool sbd, .slice a_sca (List.length sca) c_sca, .slice a_scb (List.length scb) c_scb, .bool scc, .bool scd]) En28 (by kernel_rfl) Hv23 rfl rfl rfl (by kernel_rfl) (by kernel_rfl) ?_
    intro ac29 En30
    refine from_op (by kernel_rfl) ?_
    have hM31 : Heap wo21 [] := Hv23.heap.pick [] (by kernel_rfl) (by decide)
    refine op_call (d := some 19) (f := 10) (args := #[.agg #[.slice a_sa (List.length sa) c_sa, .slice a_sba (List.length sba) c_sba, .slice a_sbb (List.length sbb) c_sbb, .bool sbc, .bool sbd, .slice a_sca (List.length sca) c_sca, .slice a_scb (List.length scb) c_scb, .bool scc, .bool scd]]) En30 (by kernel_rfl) ((relay_ref _ a_sa (List.length sa) c_sa sa (by first | rfl | (simp; done) | (simp; omega) | omega) ((i_sa.ev Hv23).pick [] (by kernel_rfl)) a_sba (List.length sba) c_sba sba (by first | rfl | (simp; done) | (simp; omega) | omega) ((i_sba.ev Hv23).pick [] (by kernel_rfl)) a_sbb (List.length sbb) c_sbb sbb (by first | rfl | (simp; done) | (simp; omega) | omega) ((i_sbb.ev Hv23).pick [] (by kernel_rfl)) sbc sbd a_sca (List.length sca) c_sca sca (by first | rfl | (simp; done) | (simp; omega) | omega) ((i_sca.ev Hv23).pick [] (by kernel_rfl)) a_scb (List.length scb) c_scb scb (by first | rfl | (simp; done) | (simp; omega) | omega) ((i_scb.ev Hv23).pick [] (by kernel_rfl)) scc scd (by first | omega | (simp; done) | (simp; omega))).mono ?_)
    rintro _ wo33 ⟨rfl, he36⟩
    refine ⟨_, rfl, ?_⟩
    intro ac32 En34
    have Hv35 : Ev w [] wo33 [.box bq18 [.slice auq18 (List.length (List.drop (List.length scb) (sa ++ sba))) cuq18, .bool sbc, .slice adq18 (List.length (List.drop (List.length sbb) sca)) cdq18, .bool scc, .slice ahq18 (List.length sa) chq18, .slice apq18 (List.length sba) cpq18, .slice aqq18 (List.length sbb) cqq18, .bool sbc, .bool sbd, .slice arq18 (List.length sca) crq18, .slice avq18 (List.length scb) cvq18, .bool scc, .bool scd] 66, .vec auq18 cuq18 1 (bys (List.drop (List.length scb) (sa ++ sba))) 5, .vec adq18 cdq18 1 (bys (List.drop (List.length sbb) sca)) 5, .vec ahq18 chq18 1 (bys sa) 5, .vec apq18 cpq18 1 (bys sba) 5, .vec aqq18 cqq18 1 (bys sbb) 5, .vec arq18 crq18 1 (bys sca) 5, .vec avq18 cvq18 1 (bys scb) 5, .box bk1 [.slice a_sa (List.length sa) c_sa, .slice a_sba (List.length sba) c_sba, .slice a_sbb (List.length sbb) c_sbb, .bool sbc, .bool sbd, .slice a_sca (List.length sca) c_sca, .slice a_scb (List.length scb) c_scb, .bool scc, .bool scd] 26] := Hv23.trans (Ev.call (R := [.box bq18 [.slice auq18 (List.length (List.drop (List.length scb) (sa ++ sba))) cuq18, .bool sbc, .slice adq18 (List.length (List.drop (List.length sbb) sca)) cdq18, .bool scc, .slice ahq18 (List.length sa) chq18, .slice apq18 (List.length sba) cpq18, .slice aqq18 (List.length sbb) cqq18, .bool sbc, .bool sbd, .slice arq18 (List.length sca) crq18, .slice avq18 (List.length scb) cvq18, .bool scc, .bool scd] 66, .vec auq18 cuq18 1 (bys (List.drop (List.length scb) (sa ++ sba))) 5, .vec adq18 cdq18 1 (bys (List.drop (List.length sbb) sca)) 5, .vec ahq18 chq18 1 (bys sa) 5, .vec apq18 cpq18 1 (bys sba) 5, .vec aqq18 cqq18 1 (bys sbb) 5, .vec arq18 crq18 1 (bys sca) 5, .vec avq18 cvq18 1 (bys scb) 5, .box bk1 [.slice a_sa (List.length sa) c_sa, .slice a_sba (List.length sba) c_sba, .slice a_sbb (List.length sbb) c_sbb, .bool sbc, .bool sbd, .slice a_sca (List.length sca) c_sca, .slice a_scb (List.length scb) c_scb, .bool scc, .bool scd] 26]) Hv23.heap [0, 1, 2, 3, 4, 5, 6, 7, 8] (by kernel_rfl) (by decide) he36)
    clear hM31 he36
    refine d_pures [(1, .slice a_m (List.length m) c_m), (2, .pointer (some ⟨bk1, 0, none⟩)), (4, .bool false), (6, .pointer (some ⟨bq18, 0, none⟩)), (15, .bool false), (17, .bool false), (20, .bool (relayF sa sba sbb sbc sbd sca scb scc scd != (0 : Int)))] [.bool (relayF sa sba sbb sbc sbd sca scb scc scd != (0 : Int))] 8 En34 (by kernel_rfl) (by kernel_rfl) rfl ?_
    intro ac37 En38
    rw [show (relayF sa sba sbb sbc sbd sca scb scc scd != (0 : Int)) = false from (by simp [hr])] at En38
    refine d_pures [(1, .slice a_m (List.length m) c_m), (2, .pointer (some ⟨bk1, 0, none⟩)), (4, .bool false), (6, .pointer (some ⟨bq18, 0, none⟩)), (22, .bool false)] [.bool false, .bool false] 10 En38 (by kernel_rfl) (by kernel_rfl) rfl ?_
    intro ac39 En40
    refine from_end (by kernel_rfl) ?_
    refine then_normal ?_
    refine cond_false En40 (t := false) (by kernel_rfl) rfl ?_
    refine wp_skip ?_
    refine then_normal ?_
    refine wp_seq ?_
    refine wp_seq ?_
    refine region_from ?_  -- region 5
    refine d_pures [(1, .slice a_m (List.length m) c_m), (2, .pointer (some ⟨bk1, 0, none⟩)), (4, .bool false), (6, .pointer (some ⟨bq18, 0, none⟩)), (24, .bool false)] [.pointer (some ⟨bq18, 0, none⟩), .bool false] 2 En40 (by kernel_rfl) (by kernel_rfl) rfl ?_
    intro ac41 En42
    refine from_end (by kernel_rfl) ?_
    refine then_normal ?_
    refine cond_false En42 (t := false) (by kernel_rfl) rfl ?_
    refine wp_skip ?_
    refine then_normal ?_
    refine wp_seq ?_
    refine region_cut (F := fun ac wo => Env ac 77 [(1, .slice a_m (List.length m) c_m), (2, .pointer (some ⟨bk1, 0, none⟩)), (4, .bool false), (6, .pointer (some ⟨bq18, 0, none⟩)), (7, .bool true)] ∧ Ev w [] wo [.box bq18 [.slice auq18 (List.length (List.drop (List.length scb) (sa ++ sba))) cuq18, .bool sbc, .slice adq18 (List.length (List.drop (List.length sbb) sca)) cdq18, .bool scc, .slice ahq18 (List.length sa) chq18, .slice apq18 (List.length sba) cpq18, .slice aqq18 (List.length sbb) cqq18, .bool sbc, .bool sbd, .slice arq18 (List.length sca) crq18, .slice avq18 (List.length scb) cvq18, .bool scc, .bool scd] 66, .vec ahq18 chq18 1 (bys sa) 5, .vec apq18 cpq18 1 (bys sba) 5, .vec aqq18 cqq18 1 (bys sbb) 5, .vec arq18 crq18 1 (bys sca) 5, .vec avq18 cvq18 1 (bys scb) 5, .vec auq18 cuq18 1 (bys (List.drop (List.length scb) (sa ++ sba))) 5, .vec adq18 cdq18 1 (bys (List.drop (List.length sbb) sca)) 5, .box bk1 [.slice a_sa (List.length sa) c_sa, .slice a_sba (List.length sba) c_sba, .slice a_sbb (List.length sbb) c_sbb, .bool sbc, .bool sbd, .slice a_sca (List.length sca) c_sca, .slice a_scb (List.length scb) c_scb, .bool scc, .bool scd] 26]) ?_ ?_
    ·
      refine draw_any (by kernel_rfl) 5 (by kernel_rfl) ?_  -- region 7
      have wo43 := Hv35.trans (Ev.drew Hv35.heap)
      refine any_name fun G hG => ?_
      have nd80 : ∀ (ac : Act) (wo : World) (nhq46 : _) (npq46 : _) (nqq46 : _) (nrq46 : _) (nvq46 : _) (mhq46 : _) (mpq46 : _) (mqq46 : _) (mrq46 : _) (mvq46 : _), Env ac 77 [(1, .slice a_m (List.length m) c_m), (2, .pointer (some ⟨bk1, 0, none⟩)), (4, .bool false), (6, .pointer (some ⟨bq18, 0, none⟩)), (26, .agg #[.slice nhq46 (List.length sa) mhq46, .slice npq46 (List.length sba) mpq46, .slice nqq46 (List.length sbb) mqq46, .bool sbc, .bool sbd, .slice nrq46 (List.length sca) mrq46, .slice nvq46 (List.length scb) mvq46, .bool scc, .bool scd])] → Ev w [] wo [.box bq18 [.slice auq18 (List.length (List.drop (List.length scb) (sa ++ sba))) cuq18, .bool sbc, .slice adq18 (List.length (List.drop (List.length sbb) sca)) cdq18, .bool scc, .slice ahq18 (List.length sa) chq18, .slice apq18 (List.length sba) cpq18, .slice aqq18 (List.length sbb) cqq18, .bool sbc, .bool sbd, .slice arq18 (List.length sca) crq18, .slice avq18 (List.length scb) cvq18, .bool scc, .bool scd] 66, .vec ahq18 chq18 1 (bys sa) 5, .vec apq18 cpq18 1 (bys sba) 5, .vec aqq18 cqq18 1 (bys sbb) 5, .vec arq18 crq18 1 (bys sca) 5, .vec avq18 cvq18 1 (bys scb) 5, .vec nhq46 mhq46 1 (bys sa) 5, .vec npq46 mpq46 1 (bys sba) 5, .vec nqq46 mqq46 1 (bys sbb) 5, .vec nrq46 mrq46 1 (bys sca) 5, .vec nvq46 mvq46 1 (bys scb) 5, .vec auq18 cuq18 1 (bys (List.drop (List.length scb) (sa ++ sba))) 5, .vec adq18 cdq18 1 (bys (List.drop (List.length sbb) sca)) 5, .box bk1 [.slice a_sa (List.length sa) c_sa, .slice a_sba (List.length sba) c_sba, .slice a_sbb (List.length sbb) c_sbb, .bool sbc, .bool sbd, .slice a_sca (List.length sca) c_sca, .slice a_scb (List.length scb) c_scb, .bool scc, .bool scd] 26] → G 3 #[true, true, false, false, false] ac wo := by
        intro ac81 wo82 nhq46 npq46 nqq46 nrq46 nvq46 mhq46 mpq46 mqq46 mrq46 mvq46 En83 Hv84
        refine any_from hG ?_
        refine any_at 2 (by kernel_rfl) rfl ?_
        refine op_loadaggbox (d := some 27) (t := 26) (b := bk1) (off := 0) (k := 13) (m := 9) (xs := [.slice a_sa (List.length sa) c_sa, .slice a_sba (List.length sba) c_sba, .slice a_sbb (List.length sbb) c_sbb, .bool sbc, .bool sbd, .slice a_sca (List.length sca) c_sca, .slice a_scb (List.length scb) c_scb, .bool scc, .bool scd]) En83 (by kernel_rfl) Hv84 rfl rfl rfl (by kernel_rfl) (by kernel_rfl) ?_
        intro ac85 En86
        refine any_at 3 (by kernel_rfl) rfl ?_
        have hM87 : Heap wo82 [] := Hv84.heap.pick [] (by kernel_rfl) (by decide)
        refine op_call (d := some 28) (f := 25) (args := #[.agg #[.slice nhq46 (List.length sa) mhq46, .slice npq46 (List.length sba) mpq46, .slice nqq46 (List.length sbb) mqq46, .bool sbc, .bool sbd, .slice nrq46 (List.length sca) mrq46, .slice nvq46 (List.length scb) mvq46, .bool scc, .bool scd], .agg #[.slice a_sa (List.length sa) c_sa, .slice a_sba (List.length sba) c_sba, .slice a_sbb (List.length sbb) c_sbb, .bool sbc, .bool sbd, .slice a_sca (List.length sca) c_sca, .slice a_scb (List.length scb) c_scb, .bool scc, .bool scd]]) En86 (by kernel_rfl) ((same_ref _ nhq46 (List.length sa) mhq46 sa (by first | rfl | (simp; done) | (simp; omega) | omega) (bys_in Hv84.heap (k := 6) rfl [] (by kernel_rfl) rfl (by first | omega | (simp; done) | (simp; omega))) npq46 (List.length sba) mpq46 sba (by first | rfl | (simp; done) | (simp; omega) | omega) (bys_in Hv84.heap (k := 7) rfl [] (by kernel_rfl) rfl (by first | omega | (simp; done) | (simp; omega))) nqq46 (List.length sbb) mqq46 sbb (by first | rfl | (simp; done) | (simp; omega) | omega) (bys_in Hv84.heap (k := 8) rfl [] (by kernel_rfl) rfl (by first | omega | (simp; done) | (simp; omega))) sbc sbd nrq46 (List.length sca) mrq46 sca (by first | rfl | (simp; done) | (simp; omega) | omega) (bys_in Hv84.heap (k := 9) rfl [] (by kernel_rfl) rfl (by first | omega | (simp; done) | (simp; omega))) nvq46 (List.length scb) mvq46 scb (by first | rfl | (simp; done) | (simp; omega) | omega) (bys_in Hv84.heap (k := 10) rfl [] (by kernel_rfl) rfl (by first | omega | (simp; done) | (simp; omega))) scc scd a_sa (List.length sa) c_sa sa (by first | rfl | (simp; done) | (simp; omega) | omega) ((i_sa.ev Hv84).pick [] (by kernel_rfl)) a_sba (List.length sba) c_sba sba (by first | rfl | (simp; done) | (simp; omega) | omega) ((i_sba.ev Hv84).pick [] (by kernel_rfl)) a_sbb (List.length sbb) c_sbb sbb (by first | rfl | (simp; done) | (simp; omega) | omega) ((i_sbb.ev Hv84).pick [] (by kernel_rfl)) sbc sbd a_sca (List.length sca) c_sca sca (by first | rfl | (simp; done) | (simp; omega) | omega) ((i_sca.ev Hv84).pick [] (by kernel_rfl)) a_scb (List.length scb) c_scb scb (by first | rfl | (simp; done) | (simp; omega) | omega) ((i_scb.ev Hv84).pick [] (by kernel_rfl)) scc scd).mono ?_)
        rintro _ wo89 ⟨rfl, he92⟩
        refine ⟨_, rfl, ?_⟩
        intro ac88 En90
        have Hv91 : Ev w [] wo89 [.box bq18 [.slice auq18 (List.length (List.drop (List.length scb) (sa ++ sba))) cuq18, .bool sbc, .slice adq18 (List.length (List.drop (List.length sbb) sca)) cdq18, .bool scc, .slice ahq18 (List.length sa) chq18, .slice apq18 (List.length sba) cpq18, .slice aqq18 (List.length sbb) cqq18, .bool sbc, .bool sbd, .slice arq18 (List.length sca) crq18, .slice avq18 (List.length scb) cvq18, .bool scc, .bool scd] 66, .vec ahq18 chq18 1 (bys sa) 5, .vec apq18 cpq18 1 (bys sba) 5, .vec aqq18 cqq18 1 (bys sbb) 5, .vec arq18 crq18 1 (bys sca) 5, .vec avq18 cvq18 1 (bys scb) 5, .vec nhq46 mhq46 1 (bys sa) 5, .vec npq46 mpq46 1 (bys sba) 5, .vec nqq46 mqq46 1 (bys sbb) 5, .vec nrq46 mrq46 1 (bys sca) 5, .vec nvq46 mvq46 1 (bys scb) 5, .vec auq18 cuq18 1 (bys (List.drop (List.length scb) (sa ++ sba))) 5, .vec adq18 cdq18 1 (bys (List.drop (List.length sbb) sca)) 5, .box bk1 [.slice a_sa (List.length sa) c_sa, .slice a_sba (List.length sba) c_sba, .slice a_sbb (List.length sbb) c_sbb, .bool sbc, .bool sbd, .slice a_sca (List.length sca) c_sca, .slice a_scb (List.length scb) c_scb, .bool scc, .bool scd] 26] := Hv84.trans (Ev.call (R := [.box bq18 [.slice auq18 (List.length (List.drop (List.length scb) (sa ++ sba))) cuq18, .bool sbc, .slice adq18 (List.length (List.drop (List.length sbb) sca)) cdq18, .bool scc, .slice ahq18 (List.length sa) chq18, .slice apq18 (List.length sba) cpq18, .slice aqq18 (List.length sbb) cqq18, .bool sbc, .bool sbd, .slice arq18 (List.length sca) crq18, .slice avq18 (List.length scb) cvq18, .bool scc, .bool scd] 66, .vec ahq18 chq18 1 (bys sa) 5, .vec apq18 cpq18 1 (bys sba) 5, .vec aqq18 cqq18 1 (bys sbb) 5, .vec arq18 crq18 1 (bys sca) 5, .vec avq18 cvq18 1 (bys scb) 5, .vec nhq46 mhq46 1 (bys sa) 5, .vec npq46 mpq46 1 (bys sba) 5, .vec nqq46 mqq46 1 (bys sbb) 5, .vec nrq46 mrq46 1 (bys sca) 5, .vec nvq46 mvq46 1 (bys scb) 5, .vec auq18 cuq18 1 (bys (List.drop (List.length scb) (sa ++ sba))) 5, .vec adq18 cdq18 1 (bys (List.drop (List.length sbb) sca)) 5, .box bk1 [.slice a_sa (List.length sa) c_sa, .slice a_sba (List.length sba) c_sba, .slice a_sbb (List.length sbb) c_sbb, .bool sbc, .bool sbd, .slice a_sca (List.length sca) c_sca, .slice a_scb (List.length scb) c_scb, .bool scc, .bool scd] 26]) Hv84.heap [0, 1, 2, 3, 4, 5, 6, 7, 8, 9, 10, 11, 12, 13] (by kernel_rfl) (by decide) he92)
        clear hM87 he92
        refine any_pureR (d := some 7) En90 (v := .bool ((sba == sba && (sbb == sbb && (sbc == sbc && sbd == sbd))) && ((sca == sca && (scb == scb && (scc == scc && scd == scd))) && sa == sa))) 4 (by kernel_rfl) (by kernel_rfl) rfl ?_
        intro ac93 En94
        rw [show ((sba == sba && (sbb == sbb && (sbc == sbc && sbd == sbd))) && ((sca == sca && (scb == scb && (scc == scc && scd == scd))) && sa == sa)) = true from by simp] at En94
        exact any_end (by kernel_rfl) ⟨En94.sub (by kernel_rfl), Hv91.pick [0, 1, 2, 3, 4, 5, 11, 12, 13] (by kernel_rfl) (by decide)⟩
      have nd95 : ∀ (ac : Act) (wo : World), Env ac 77 [(1, .slice a_m (List.length m) c_m), (2, .pointer (some ⟨bk1, 0, none⟩)), (4, .bool false), (6, .pointer (some ⟨bq18, 0, none⟩)), (25, .pointer (some ⟨bq18, 0, none⟩)), (27, .agg #[.slice a_sa (List.length sa) c_sa, .slice a_sba (List.length sba) c_sba, .slice a_sbb (List.length sbb) c_sbb, .bool sbc, .bool sbd, .slice a_sca (List.length sca) c_sca, .slice a_scb (List.length scb) c_scb, .bool scc, .bool scd])] → Ev w [] wo [.box bq18 [.slice auq18 (List.length (List.drop (List.length scb) (sa ++ sba))) cuq18, .bool sbc, .slice adq18 (List.length (List.drop (List.length sbb) sca)) cdq18, .bool scc, .slice ahq18 (List.length sa) chq18, .slice apq18 (List.length sba) cpq18, .slice aqq18 (List.length sbb) cqq18, .bool sbc, .bool sbd, .slice arq18 (List.length sca) crq18, .slice avq18 (List.length scb) cvq18, .bool scc, .bool scd] 66, .vec auq18 cuq18 1 (bys (List.drop (List.length scb) (sa ++ sba))) 5, .vec adq18 cdq18 1 (bys (List.drop (List.length sbb) sca)) 5, .vec ahq18 chq18 1 (bys sa) 5, .vec apq18 cpq18 1 (bys sba) 5, .vec aqq18 cqq18 1 (bys sbb) 5, .vec arq18 crq18 1 (bys sca) 5, .vec avq18 cvq18 1 (bys scb) 5, .box bk1 [.slice a_sa (List.length sa) c_sa, .slice a_sba (List.length sba) c_sba, .slice a_sbb (List.length sbb) c_sbb, .bool sbc, .bool sbd, .slice a_sca (List.length sca) c_sca, .slice a_scb (List.length scb) c_scb, .bool scc, .bool scd] 26] → G 3 #[true, false, true, false, false] ac wo := by
        intro ac96 wo97 En98 Hv99
        refine any_from hG ?_
        refine any_at 1 (by kernel_rfl) rfl ?_
        have hM101 : Heap wo97 [.box bq18 [.slice auq18 (List.length (List.drop (List.length scb) (sa ++ sba))) cuq18, .bool sbc, .slice adq18 (List.length (List.drop (List.length sbb) sca)) cdq18, .bool scc, .slice ahq18 (List.length sa) chq18, .slice apq18 (List.length sba) cpq18, .slice aqq18 (List.length sbb) cqq18, .bool sbc, .bool sbd, .slice arq18 (List.length sca) crq18, .slice avq18 (List.length scb) cvq18, .bool scc, .bool scd] 66, .vec ahq18 chq18 1 (bys sa) 5, .vec apq18 cpq18 1 (bys sba) 5, .vec aqq18 cqq18 1 (bys sbb) 5, .vec arq18 crq18 1 (bys sca) 5, .vec avq18 cvq18 1 (bys scb) 5] := Hv99.heap.pick [0, 3, 4, 5, 6, 7] (by kernel_rfl) (by decide)
        refine op_call (d := some 26) (f := 26) (args := #[.pointer (some ⟨bq18, 0, none⟩)]) En98 (by kernel_rfl) ((story_go _ bq18 auq18 adq18 ahq18 apq18 aqq18 arq18 avq18 cuq18 cdq18 chq18 cpq18 cqq18 crq18 cvq18 (List.drop (List.length scb) (sa ++ sba)) (List.drop (List.length sbb) sca) sa sba sbb sca scb sbc sbd scc scd hM101 (by omega)).mono ?_)
        rintro _ wo103 ⟨nhq100, npq100, nqq100, nrq100, nvq100, mhq100, mpq100, mqq100, mrq100, mvq100, rfl, he106⟩
        refine ⟨_, rfl, ?_⟩
        intro ac102 En104
        have Hv105 : Ev w [] wo103 [.box bq18 [.slice auq18 (List.length (List.drop (List.length scb) (sa ++ sba))) cuq18, .bool sbc, .slice adq18 (List.length (List.drop (List.length sbb) sca)) cdq18, .bool scc, .slice ahq18 (List.length sa) chq18, .slice apq18 (List.length sba) cpq18, .slice aqq18 (List.length sbb) cqq18, .bool sbc, .bool sbd, .slice arq18 (List.length sca) crq18, .slice avq18 (List.length scb) cvq18, .bool scc, .bool scd] 66, .vec ahq18 chq18 1 (bys sa) 5, .vec apq18 cpq18 1 (bys sba) 5, .vec aqq18 cqq18 1 (bys sbb) 5, .vec arq18 crq18 1 (bys sca) 5, .vec avq18 cvq18 1 (bys scb) 5, .vec nhq100 mhq100 1 (bys sa) 5, .vec npq100 mpq100 1 (bys sba) 5, .vec nqq100 mqq100 1 (bys sbb) 5, .vec nrq100 mrq100 1 (bys sca) 5, .vec nvq100 mvq100 1 (bys scb) 5, .vec auq18 cuq18 1 (bys (List.drop (List.length scb) (sa ++ sba))) 5, .vec adq18 cdq18 1 (bys (List.drop (List.length sbb) sca)) 5, .box bk1 [.slice a_sa (List.length sa) c_sa, .slice a_sba (List.length sba) c_sba, .slice a_sbb (List.length sbb) c_sbb, .bool sbc, .bool sbd, .slice a_sca (List.length sca) c_sca, .slice a_scb (List.length scb) c_scb, .bool scc, .bool scd] 26] := Hv99.trans (Ev.call (R := [.vec auq18 cuq18 1 (bys (List.drop (List.length scb) (sa ++ sba))) 5, .vec adq18 cdq18 1 (bys (List.drop (List.length sbb) sca)) 5, .box bk1 [.slice a_sa (List.length sa) c_sa, .slice a_sba (List.length sba) c_sba, .slice a_sbb (List.length sbb) c_sbb, .bool sbc, .bool sbd, .slice a_sca (List.length sca) c_sca, .slice a_scb (List.length scb) c_scb, .bool scc, .bool scd] 26]) Hv99.heap [0, 3, 4, 5, 6, 7, 1, 2, 8] (by kernel_rfl) (by decide) he106)
        clear hM101 he106
        refine any_at 3 (by kernel_rfl) rfl ?_
        have hM107 : Heap wo103 [] := Hv105.heap.pick [] (by kernel_rfl) (by decide)
        refine op_call (d := some 28) (f := 25) (args := #[.agg #[.slice nhq100 (List.length sa) mhq100, .slice npq100 (List.length sba) mpq100, .slice nqq100 (List.length sbb) mqq100, .bool sbc, .bool sbd, .slice nrq100 (List.length sca) mrq100, .slice nvq100 (List.length scb) mvq100, .bool scc, .bool scd], .agg #[.slice a_sa (List.length sa) c_sa, .slice a_sba (List.length sba) c_sba, .slice a_sbb (List.length sbb) c_sbb, .bool sbc, .bool sbd, .slice a_sca (List.length sca) c_sca, .slice a_scb (List.length scb) c_scb, .bool scc, .bool scd]]) En104 (by kernel_rfl) ((same_ref _ nhq100 (List.length sa) mhq100 sa (by first | rfl | (simp; done) | (simp; omega) | omega) (bys_in Hv105.heap (k := 6) rfl [] (by kernel_rfl) rfl (by first | omega | (simp; done) | (simp; omega))) npq100 (List.length sba) mpq100 sba (by first | rfl | (simp; done) | (simp; omega) | omega) (bys_in Hv105.heap (k := 7) rfl [] (by kernel_rfl) rfl (by first | omega | (simp; done) | (simp; omega))) nqq100 (List.length sbb) mqq100 sbb (by first | rfl | (simp; done) | (simp; omega) | omega) (bys_in Hv105.heap (k := 8) rfl [] (by kernel_rfl) rfl (by first | omega | (simp; done) | (simp; omega))) sbc sbd nrq100 (List.length sca) mrq100 sca (by first | rfl | (simp; done) | (simp; omega) | omega) (bys_in Hv105.heap (k := 9) rfl [] (by kernel_rfl) rfl (by first | omega | (simp; done) | (simp; omega))) nvq100 (List.length scb) mvq100 scb (by first | rfl | (simp; done) | (simp; omega) | omega) (bys_in Hv105.heap (k := 10) rfl [] (by kernel_rfl) rfl (by first | omega | (simp; done) | (simp; omega))) scc scd a_sa (List.length sa) c_sa sa (by first | rfl | (simp; done) | (simp; omega) | omega) ((i_sa.ev Hv105).pick [] (by kernel_rfl)) a_sba (List.length sba) c_sba sba (by first | rfl | (simp; done) | (simp; omega) | omega) ((i_sba.ev Hv105).pick [] (by kernel_rfl)) a_sbb (List.length sbb) c_sbb sbb (by first | rfl | (simp; done) | (simp; omega) | omega) ((i_sbb.ev Hv105).pick [] (by kernel_rfl)) sbc sbd a_sca (List.length sca) c_sca sca (by first | rfl | (simp; done) | (simp; omega) | omega) ((i_sca.ev Hv105).pick [] (by kernel_rfl)) a_scb (List.length scb) c_scb scb (by first | rfl | (simp; done) | (simp; omega) | omega) ((i_scb.ev Hv105).pick [] (by kernel_rfl)) scc scd).mono ?_)
        rintro _ wo109 ⟨rfl, he112⟩
        refine ⟨_, rfl, ?_⟩
        intro ac108 En110
        have Hv111 : Ev w [] wo109 [.box bq18 [.slice auq18 (List.length (List.drop (List.length scb) (sa ++ sba))) cuq18, .bool sbc, .slice adq18 (List.length (List.drop (List.length sbb) sca)) cdq18, .bool scc, .slice ahq18 (List.length sa) chq18, .slice apq18 (List.length sba) cpq18, .slice aqq18 (List.length sbb) cqq18, .bool sbc, .bool sbd, .slice arq18 (List.length sca) crq18, .slice avq18 (List.length scb) cvq18, .bool scc, .bool scd] 66, .vec ahq18 chq18 1 (bys sa) 5, .vec apq18 cpq18 1 (bys sba) 5, .vec aqq18 cqq18 1 (bys sbb) 5, .vec arq18 crq18 1 (bys sca) 5, .vec avq18 cvq18 1 (bys scb) 5, .vec nhq100 mhq100 1 (bys sa) 5, .vec npq100 mpq100 1 (bys sba) 5, .vec nqq100 mqq100 1 (bys sbb) 5, .vec nrq100 mrq100 1 (bys sca) 5, .vec nvq100 mvq100 1 (bys scb) 5, .vec auq18 cuq18 1 (bys (List.drop (List.length scb) (sa ++ sba))) 5, .vec adq18 cdq18 1 (bys (List.drop (List.length sbb) sca)) 5, .box bk1 [.slice a_sa (List.length sa) c_sa, .slice a_sba (List.length sba) c_sba, .slice a_sbb (List.length sbb) c_sbb, .bool sbc, .bool sbd, .slice a_sca (List.length sca) c_sca, .slice a_scb (List.length scb) c_scb, .bool scc, .bool scd] 26] := Hv105.trans (Ev.call (R := [.box bq18 [.slice auq18 (List.length (List.drop (List.length scb) (sa ++ sba))) cuq18, .bool sbc, .slice adq18 (List.length (List.drop (List.length sbb) sca)) cdq18, .bool scc, .slice ahq18 (List.length sa) chq18, .slice apq18 (List.length sba) cpq18, .slice aqq18 (List.length sbb) cqq18, .bool sbc, .bool sbd, .slice arq18 (List.length sca) crq18, .slice avq18 (List.length scb) cvq18, .bool scc, .bool scd] 66, .vec ahq18 chq18 1 (bys sa) 5, .vec apq18 cpq18 1 (bys sba) 5, .vec aqq18 cqq18 1 (bys sbb) 5, .vec arq18 crq18 1 (bys sca) 5, .vec avq18 cvq18 1 (bys scb) 5, .vec nhq100 mhq100 1 (bys sa) 5, .vec npq100 mpq100 1 (bys sba) 5, .vec nqq100 mqq100 1 (bys sbb) 5, .vec nrq100 mrq100 1 (bys sca) 5, .vec nvq100 mvq100 1 (bys scb) 5, .vec auq18 cuq18 1 (bys (List.drop (List.length scb) (sa ++ sba))) 5, .vec adq18 cdq18 1 (bys (List.drop (List.length sbb) sca)) 5, .box bk1 [.slice a_sa (List.length sa) c_sa, .slice a_sba (List.length sba) c_sba, .slice a_sbb (List.length sbb) c_sbb, .bool sbc, .bool sbd, .slice a_sca (List.length sca) c_sca, .slice a_scb (List.length scb) c_scb, .bool scc, .bool scd] 26]) Hv105.heap [0, 1, 2, 3, 4, 5, 6, 7, 8, 9, 10, 11, 12, 13] (by kernel_rfl) (by decide) he112)
        clear hM107 he112
        refine any_pureR (d := some 7) En110 (v := .bool ((sba == sba && (sbb == sbb && (sbc == sbc && sbd == sbd))) && ((sca == sca && (scb == scb && (scc == scc && scd == scd))) && sa == sa))) 4 (by kernel_rfl) (by kernel_rfl) rfl ?_
        intro ac113 En114
        rw [show ((sba == sba && (sbb == sbb && (sbc == sbc && sbd == sbd))) && ((sca == sca && (scb == scb && (scc == scc && scd == scd))) && sa == sa)) = true from by simp] at En114
        exact any_end (by kernel_rfl) ⟨En114.sub (by kernel_rfl), Hv111.pick [0, 1, 2, 3, 4, 5, 11, 12, 13] (by kernel_rfl) (by decide)⟩
      refine any_from hG ?_
      refine any_pureR (d := some 25) En42 (v := .pointer (some ⟨bq18, 0, none⟩)) 0 (by kernel_rfl) (by kernel_rfl) rfl ?_
      intro ac115 En116
      refine any_two 1 2 (by kernel_rfl) ?_ ?_
      · rintro _ rfl
        have hM118 : Heap wo33.drew [.box bq18 [.slice auq18 (List.length (List.drop (List.length scb) (sa ++ sba))) cuq18, .bool sbc, .slice adq18 (List.length (List.drop (List.length sbb) sca)) cdq18, .bool scc, .slice ahq18 (List.length sa) chq18, .slice apq18 (List.length sba) cpq18, .slice aqq18 (List.length sbb) cqq18, .bool sbc, .bool sbd, .slice arq18 (List.length sca) crq18, .slice avq18 (List.length scb) cvq18, .bool scc, .bool scd] 66, .vec ahq18 chq18 1 (bys sa) 5, .vec apq18 cpq18 1 (bys sba) 5, .vec aqq18 cqq18 1 (bys sbb) 5, .vec arq18 crq18 1 (bys sca) 5, .vec avq18 cvq18 1 (bys scb) 5] := wo43.heap.pick [0, 3, 4, 5, 6, 7] (by kernel_rfl) (by decide)
        refine op_call (d := some 26) (f := 26) (args := #[.pointer (some ⟨bq18, 0, none⟩)]) En116 (by kernel_rfl) ((story_go _ bq18 auq18 adq18 ahq18 apq18 aqq18 arq18 avq18 cuq18 cdq18 chq18 cpq18 cqq18 crq18 cvq18 (List.drop (List.length scb) (sa ++ sba)) (List.drop (List.length sbb) sca) sa sba sbb sca scb sbc sbd scc scd hM118 (by omega)).mono ?_)
        rintro _ wo120 ⟨nhq117, npq117, nqq117, nrq117, nvq117, mhq117, mpq117, mqq117, mrq117, mvq117, rfl, he123⟩
        refine ⟨_, rfl, ?_⟩
        intro ac119 En121
        have Hv122 : Ev w [] wo120 [.box bq18 [.slice auq18 (List.length (List.drop (List.length scb) (sa ++ sba))) cuq18, .bool sbc, .slice adq18 (List.length (List.drop (List.length sbb) sca)) cdq18, .bool scc, .slice ahq18 (List.length sa) chq18, .slice apq18 (List.length sba) cpq18, .slice aqq18 (List.length sbb) cqq18, .bool sbc, .bool sbd, .slice arq18 (List.length sca) crq18, .slice avq18 (List.length scb) cvq18, .bool scc, .bool scd] 66, .vec ahq18 chq18 1 (bys sa) 5, .vec apq18 cpq18 1 (bys sba) 5, .vec aqq18 cqq18 1 (bys sbb) 5, .vec arq18 crq18 1 (bys sca) 5, .vec avq18 cvq18 1 (bys scb) 5, .vec nhq117 mhq117 1 (bys sa) 5, .vec npq117 mpq117 1 (bys sba) 5, .vec nqq117 mqq117 1 (bys sbb) 5, .vec nrq117 mrq117 1 (bys sca) 5, .vec nvq117 mvq117 1 (bys scb) 5, .vec auq18 cuq18 1 (bys (List.drop (List.length scb) (sa ++ sba))) 5, .vec adq18 cdq18 1 (bys (List.drop (List.length sbb) sca)) 5, .box bk1 [.slice a_sa (List.length sa) c_sa, .slice a_sba (List.length sba) c_sba, .slice a_sbb (List.length sbb) c_sbb, .bool sbc, .bool sbd, .slice a_sca (List.length sca) c_sca, .slice a_scb (List.length scb) c_scb, .bool scc, .bool scd] 26] := wo43.trans (Ev.call (R := [.vec auq18 cuq18 1 (bys (List.drop (List.length scb) (sa ++ sba))) 5, .vec adq18 cdq18 1 (bys (List.drop (List.length sbb) sca)) 5, .box bk1 [.slice a_sa (List.length sa) c_sa, .slice a_sba (List.length sba) c_sba, .slice a_sbb (List.length sbb) c_sbb, .bool sbc, .bool sbd, .slice a_sca (List.length sca) c_sca, .slice a_scb (List.length scb) c_scb, .bool scc, .bool scd] 26]) wo43.heap [0, 3, 4, 5, 6, 7, 1, 2, 8] (by kernel_rfl) (by decide) he123)
        clear hM118 he123
        exact any_to hG (by kernel_rfl) (nd80 _ _ nhq117 npq117 nqq117 nrq117 nvq117 mhq117 mpq117 mqq117 mrq117 mvq117 (En121.sub (by kernel_rfl)) (Hv122.pick [0, 1, 2, 3, 4, 5, 6, 7, 8, 9, 10, 11, 12, 13] (by kernel_rfl) (by decide)))
      · rintro _ rfl
        refine op_loadaggbox (d := some 27) (t := 26) (b := bk1) (off := 0) (k := 8) (m := 9) (xs := [.slice a_sa (List.length sa) c_sa, .slice a_sba (List.length sba) c_sba, .slice a_sbb (List.length sbb) c_sbb, .bool sbc, .bool sbd, .slice a_sca (List.length sca) c_sca, .slice a_scb (List.length scb) c_scb, .bool scc, .bool scd]) En116 (by kernel_rfl) wo43 rfl rfl rfl (by kernel_rfl) (by kernel_rfl) ?_
        intro ac124 En125
        exact any_to hG (by kernel_rfl) (nd95 _ _ (En125.sub (by kernel_rfl)) (wo43.pick [0, 1, 2, 3, 4, 5, 6, 7, 8] (by kernel_rfl) (by decide)))
    rintro ac126 wo127 ⟨En128, Hv129⟩
    refine then_normal ?_
    refine wp_seq ?_
    refine region_cut (F := fun ac wo => ∃ (ao160 : Option Addr) (cp161 : Nat), Env ac 77 [(1, .slice a_m (List.length m) c_m), (2, .pointer (some ⟨bk1, 0, none⟩)), (4, .bool false), (6, .pointer (some ⟨bq18, 0, none⟩)), (7, .bool true), (8, .slice (cutAt ao160 cp161 (List.length scb) 1) (List.length (List.drop (List.length scb) (sa ++ sba))) (cp161 - (List.length scb)))] ∧ Ev w [] wo [.box bq18 [.slice auq18 (List.length (List.drop (List.length scb) (sa ++ sba))) cuq18, .bool sbc, .slice adq18 (List.length (List.drop (List.length sbb) sca)) cdq18, .bool scc, .slice ahq18 (List.length sa) chq18, .slice apq18 (List.length sba) cpq18, .slice aqq18 (List.length sbb) cqq18, .bool sbc, .bool sbd, .slice arq18 (List.length sca) crq18, .slice avq18 (List.length scb) cvq18, .bool scc, .bool scd] 66, .vec ahq18 chq18 1 (bys sa) 5, .vec apq18 cpq18 1 (bys sba) 5, .vec aqq18 cqq18 1 (bys sbb) 5, .vec arq18 crq18 1 (bys sca) 5, .vec avq18 cvq18 1 (bys scb) 5, .vec auq18 cuq18 1 (bys (List.drop (List.length scb) (sa ++ sba))) 5, .vec adq18 cdq18 1 (bys (List.drop (List.length sbb) sca)) 5, .box bk1 [.slice a_sa (List.length sa) c_sa, .slice a_sba (List.length sba) c_sba, .slice a_sbb (List.length sbb) c_sbb, .bool sbc, .bool sbd, .slice a_sca (List.length sca) c_sca, .slice a_scb (List.length scb) c_scb, .bool scc, .bool scd] 26, .vec (cutAt ao160 cp161 (List.length scb) 1) (cp161 - (List.length scb)) 1 (bys (List.drop (List.length scb) (sa ++ sba))) 5]) ?_ ?_
    ·
      refine draw_any (by kernel_rfl) 14 (by kernel_rfl) ?_  -- region 8
      have wo130 := Hv129.trans (Ev.drew Hv129.heap)
      refine any_name fun G hG => ?_
      have nd540 : ∀ (ac : Act) (wo : World) (ao160 : Option Addr) (cp161 : Nat), Env ac 77 [(1, .slice a_m (List.length m) c_m), (2, .pointer (some ⟨bk1, 0, none⟩)), (4, .bool false), (6, .pointer (some ⟨bq18, 0, none⟩)), (7, .bool true), (36, .slice ao160 (List.length (sa ++ sba)) cp161), (38, .pointer (some ⟨bk1, 6, none⟩))] → Ev w [] wo [.box bq18 [.slice auq18 (List.length (List.drop (List.length scb) (sa ++ sba))) cuq18, .bool sbc, .slice adq18 (List.length (List.drop (List.length sbb) sca)) cdq18, .bool scc, .slice ahq18 (List.length sa) chq18, .slice apq18 (List.length sba) cpq18, .slice aqq18 (List.length sbb) cqq18, .bool sbc, .bool sbd, .slice arq18 (List.length sca) crq18, .slice avq18 (List.length scb) cvq18, .bool scc, .bool scd] 66, .vec ahq18 chq18 1 (bys sa) 5, .vec apq18 cpq18 1 (bys sba) 5, .vec aqq18 cqq18 1 (bys sbb) 5, .vec arq18 crq18 1 (bys sca) 5, .vec avq18 cvq18 1 (bys scb) 5, .vec auq18 cuq18 1 (bys (List.drop (List.length scb) (sa ++ sba))) 5, .vec adq18 cdq18 1 (bys (List.drop (List.length sbb) sca)) 5, .box bk1 [.slice a_sa (List.length sa) c_sa, .slice a_sba (List.length sba) c_sba, .slice a_sbb (List.length sbb) c_sbb, .bool sbc, .bool sbd, .slice a_sca (List.length sca) c_sca, .slice a_scb (List.length scb) c_scb, .bool scc, .bool scd] 26, .vec ao160 cp161 1 (bys (sa ++ sba)) 5] → G 4 #[true, true, true, true, true, true, true, true, true, true, false, false, false, false] ac wo := by
        intro ac541 wo542 ao160 cp161 En543 Hv544
        refine any_from hG ?_
        refine any_at 10 (by kernel_rfl) rfl ?_
        refine op_loadbox (d := some 39) (t := 22) (b := bk1) (off := 6) (k := 8) (v := .slice a_scb (List.length scb) c_scb) En543 (by kernel_rfl) Hv544 rfl rfl (by kernel_rfl) ?_
        intro ac545 En546
        refine any_pureR (d := some 40) En546 (v := .int .i64 ((List.length scb : Nat) : Int)) 11 (by kernel_rfl) (by kernel_rfl) rfl ?_
        intro ac547 En548
        refine any_at 12 (by kernel_rfl) rfl ?_
        have hcap549 := bys_vcap Hv544.heap (k := 9) rfl
        refine op_slice (d := some 41) (t := 22) (e := 5) (sz := 1) (len := List.length (sa ++ sba)) (cap := cp161) (lo := List.length scb) (hi := List.length (sa ++ sba)) (ao := ao160) (lov := (some (.int .i64 ((List.length scb : Nat) : Int)))) (hiv := none) En548 (by kernel_rfl) (by kernel_rfl) (by kernel_rfl) (by omega) (by omega) (.inr ⟨.i64, rfl⟩) (.inl ⟨rfl, rfl⟩) ?_
        intro ac550 En551
        have Hv552 : Ev w [] wo542 [.box bq18 [.slice auq18 (List.length (List.drop (List.length scb) (sa ++ sba))) cuq18, .bool sbc, .slice adq18 (List.length (List.drop (List.length sbb) sca)) cdq18, .bool scc, .slice ahq18 (List.length sa) chq18, .slice apq18 (List.length sba) cpq18, .slice aqq18 (List.length sbb) cqq18, .bool sbc, .bool sbd, .slice arq18 (List.length sca) crq18, .slice avq18 (List.length scb) cvq18, .bool scc, .bool scd] 66, .vec ahq18 chq18 1 (bys sa) 5, .vec apq18 cpq18 1 (bys sba) 5, .vec aqq18 cqq18 1 (bys sbb) 5, .vec arq18 crq18 1 (bys sca) 5, .vec avq18 cvq18 1 (bys scb) 5, .vec auq18 cuq18 1 (bys (List.drop (List.length scb) (sa ++ sba))) 5, .vec adq18 cdq18 1 (bys (List.drop (List.length sbb) sca)) 5, .box bk1 [.slice a_sa (List.length sa) c_sa, .slice a_sba (List.length sba) c_sba, .slice a_sbb (List.length sbb) c_sbb, .bool sbc, .bool sbd, .slice a_sca (List.length sca) c_sca, .slice a_scb (List.length scb) c_scb, .bool scc, .bool scd] 26, .vec (cutAt ao160 cp161 (List.length scb) 1) (cp161 - (List.length scb)) 1 (bys (List.drop (List.length scb) (sa ++ sba))) 5] := by
          have h := Ev.cut (k := 9) (n := List.length (sa ++ sba)) (sz := 1) Hv544 rfl (bys_len _) (by omega) (List.length scb) (List.length (sa ++ sba)) (by omega) (by omega)
          rw [bys_cutw (l := sa ++ sba) (lo := List.length scb) (n := List.length (sa ++ sba)) (by simp)] at h
          exact h
        have el553 : (List.length (sa ++ sba)) - (List.length scb) = List.length (List.drop (List.length scb) (sa ++ sba)) := by first | (simp; done) | (simp; omega)
        rw [el553] at En551
        refine any_pureR (d := some 8) En551 (v := .slice (cutAt ao160 cp161 (List.length scb) 1) (List.length (List.drop (List.length scb) (sa ++ sba))) (cp161 - (List.length scb))) 13 (by kernel_rfl) (by kernel_rfl) rfl ?_
        intro ac554 En555
        exact any_end (by kernel_rfl) ⟨ao160, cp161, En555.sub (by kernel_rfl), Hv552.pick [0, 1, 2, 3, 4, 5, 6, 7, 8, 9] (by kernel_rfl) (by decide)⟩
      have nd556 : ∀ (ac : Act) (wo : World) (ao149 : Option Addr) (cp150 : Nat), Env ac 77 [(1, .slice a_m (List.length m) c_m), (2, .pointer (some ⟨bk1, 0, none⟩)), (4, .bool false), (6, .pointer (some ⟨bq18, 0, none⟩)), (7, .bool true), (32, .slice ao149 (List.length sa) cp150), (35, .slice a_sba (List.length sba) c_sba), (39, .slice a_scb (List.length scb) c_scb)] → Ev w [] wo [.box bq18 [.slice auq18 (List.length (List.drop (List.length scb) (sa ++ sba))) cuq18, .bool sbc, .slice adq18 (List.length (List.drop (List.length sbb) sca)) cdq18, .bool scc, .slice ahq18 (List.length sa) chq18, .slice apq18 (List.length sba) cpq18, .slice aqq18 (List.length sbb) cqq18, .bool sbc, .bool sbd, .slice arq18 (List.length sca) crq18, .slice avq18 (List.length scb) cvq18, .bool scc, .bool scd] 66, .vec ahq18 chq18 1 (bys sa) 5, .vec apq18 cpq18 1 (bys sba) 5, .vec aqq18 cqq18 1 (bys sbb) 5, .vec arq18 crq18 1 (bys sca) 5, .vec avq18 cvq18 1 (bys scb) 5, .vec auq18 cuq18 1 (bys (List.drop (List.length scb) (sa ++ sba))) 5, .vec adq18 cdq18 1 (bys (List.drop (List.length sbb) sca)) 5, .box bk1 [.slice a_sa (List.length sa) c_sa, .slice a_sba (List.length sba) c_sba, .slice a_sbb (List.length sbb) c_sbb, .bool sbc, .bool sbd, .slice a_sca (List.length sca) c_sca, .slice a_scb (List.length scb) c_scb, .bool scc, .bool scd] 26, .vec ao149 cp150 1 (bys sa) 5] → G 4 #[true, true, true, true, true, true, true, false, true, true, true, false, false, false] ac wo := by
        intro ac557 wo558 ao149 cp150 En559 Hv560
        refine any_from hG ?_
        refine any_pureR (d := some 40) En559 (v := .int .i64 ((List.length scb : Nat) : Int)) 11 (by kernel_rfl) (by kernel_rfl) rfl ?_
        intro ac561 En562
        refine any_at 7 (by kernel_rfl) rfl ?_
        have hsm563 := i_sba.small
        refine op_append (d := some 36) (t := 22) (tx := 22) (ty := 22) (k := 9) (p := List.length sa) (m := List.length sba) (x := .slice a_sba (List.length sba) c_sba) (bytes := 1) En562 (by kernel_rfl) Hv560 rfl (bys_len _) (Reads.src (size := 1) (tx := 22) (e' := 5) (by kernel_rfl) (i_sba.ev Hv560).reads (bys_len _) i_sba.nz (bys_one _)) (by kernel_rfl) (z := .int .u8 0) (by kernel_rfl) rfl (by decide) (by omega) (by unfold maxLen; omega) ?_
        intro ac568 wo569 ao564 cp565 En570 Hv571 _ _
        rw [← bys_append] at Hv571
        have ehz566 : (List.length sa) + (List.length sba) = List.length (sa ++ sba) := (by first | (simp; done) | (simp; omega) | omega)
        rw [ehz566] at En570
        refine any_at 12 (by kernel_rfl) rfl ?_
        have hcap572 := bys_vcap Hv571.heap (k := 9) rfl
        refine op_slice (d := some 41) (t := 22) (e := 5) (sz := 1) (len := List.length (sa ++ sba)) (cap := cp565) (lo := List.length scb) (hi := List.length (sa ++ sba)) (ao := ao564) (lov := (some (.int .i64 ((List.length scb : Nat) : Int)))) (hiv := none) En570 (by kernel_rfl) (by kernel_rfl) (by kernel_rfl) (by omega) (by omega) (.inr ⟨.i64, rfl⟩) (.inl ⟨rfl, rfl⟩) ?_
        intro ac573 En574
        have Hv575 : Ev w [] wo569 [.box bq18 [.slice auq18 (List.length (List.drop (List.length scb) (sa ++ sba))) cuq18, .bool sbc, .slice adq18 (List.length (List.drop (List.length sbb) sca)) cdq18, .bool scc, .slice ahq18 (List.length sa) chq18, .slice apq18 (List.length sba) cpq18, .slice aqq18 (List.length sbb) cqq18, .bool sbc, .bool sbd, .slice arq18 (List.length sca) crq18, .slice avq18 (List.length scb) cvq18, .bool scc, .bool scd] 66, .vec ahq18 chq18 1 (bys sa) 5, .vec apq18 cpq18 1 (bys sba) 5, .vec aqq18 cqq18 1 (bys sbb) 5, .vec arq18 crq18 1 (bys sca) 5, .vec avq18 cvq18 1 (bys scb) 5, .vec auq18 cuq18 1 (bys (List.drop (List.length scb) (sa ++ sba))) 5, .vec adq18 cdq18 1 (bys (List.drop (List.length sbb) sca)) 5, .box bk1 [.slice a_sa (List.length sa) c_sa, .slice a_sba (List.length sba) c_sba, .slice a_sbb (List.length sbb) c_sbb, .bool sbc, .bool sbd, .slice a_sca (List.length sca) c_sca, .slice a_scb (List.length scb) c_scb, .bool scc, .bool scd] 26, .vec (cutAt ao564 cp565 (List.length scb) 1) (cp565 - (List.length scb)) 1 (bys (List.drop (List.length scb) (sa ++ sba))) 5] := by
          have h := Ev.cut (k := 9) (n := List.length (sa ++ sba)) (sz := 1) Hv571 rfl (bys_len _) (by omega) (List.length scb) (List.length (sa ++ sba)) (by omega) (by omega)
          rw [bys_cutw (l := sa ++ sba) (lo := List.length scb) (n := List.length (sa ++ sba)) (by simp)] at h
          exact h
        have el576 : (List.length (sa ++ sba)) - (List.length scb) = List.length (List.drop (List.length scb) (sa ++ sba)) := by first | (simp; done) | (simp; omega)
        rw [el576] at En574
        refine any_pureR (d := some 8) En574 (v := .slice (cutAt ao564 cp565 (List.length scb) 1) (List.length (List.drop (List.length scb) (sa ++ sba))) (cp565 - (List.length scb))) 13 (by kernel_rfl) (by kernel_rfl) rfl ?_
        intro ac577 En578
        exact any_end (by kernel_rfl) ⟨ao564, cp565, En578.sub (by kernel_rfl), Hv575.pick [0, 1, 2, 3, 4, 5, 6, 7, 8, 9] (by kernel_rfl) (by decide)⟩
      have nd579 : ∀ (ac : Act) (wo : World) (ao266 : Option Addr) (cp267 : Nat), Env ac 77 [(1, .slice a_m (List.length m) c_m), (2, .pointer (some ⟨bk1, 0, none⟩)), (4, .bool false), (6, .pointer (some ⟨bq18, 0, none⟩)), (7, .bool true), (32, .slice ao266 (List.length sa) cp267), (34, .pointer (some ⟨bk1, 1, none⟩)), (40, .int .i64 ((List.length scb : Nat) : Int))] → Ev w [] wo [.box bq18 [.slice auq18 (List.length (List.drop (List.length scb) (sa ++ sba))) cuq18, .bool sbc, .slice adq18 (List.length (List.drop (List.length sbb) sca)) cdq18, .bool scc, .slice ahq18 (List.length sa) chq18, .slice apq18 (List.length sba) cpq18, .slice aqq18 (List.length sbb) cqq18, .bool sbc, .bool sbd, .slice arq18 (List.length sca) crq18, .slice avq18 (List.length scb) cvq18, .bool scc, .bool scd] 66, .vec ahq18 chq18 1 (bys sa) 5, .vec apq18 cpq18 1 (bys sba) 5, .vec aqq18 cqq18 1 (bys sbb) 5, .vec arq18 crq18 1 (bys sca) 5, .vec avq18 cvq18 1 (bys scb) 5, .vec auq18 cuq18 1 (bys (List.drop (List.length scb) (sa ++ sba))) 5, .vec adq18 cdq18 1 (bys (List.drop (List.length sbb) sca)) 5, .box bk1 [.slice a_sa (List.length sa) c_sa, .slice a_sba (List.length sba) c_sba, .slice a_sbb (List.length sbb) c_sbb, .bool sbc, .bool sbd, .slice a_sca (List.length sca) c_sca, .slice a_scb (List.length scb) c_scb, .bool scc, .bool scd] 26, .vec ao266 cp267 1 (bys sa) 5] → G 4 #[true, true, true, true, true, true, false, false, true, true, true, true, false, false] ac wo := by
        intro ac580 wo581 ao266 cp267 En582 Hv583
        refine any_from hG ?_
        refine any_at 6 (by kernel_rfl) rfl ?_
        refine op_loadbox (d := some 35) (t := 22) (b := bk1) (off := 1) (k := 8) (v := .slice a_sba (List.length sba) c_sba) En582 (by kernel_rfl) Hv583 rfl rfl (by kernel_rfl) ?_
        intro ac584 En585
        refine any_at 7 (by kernel_rfl) rfl ?_
        have hsm586 := i_sba.small
        refine op_append (d := some 36) (t := 22) (tx := 22) (ty := 22) (k := 9) (p := List.length sa) (m := List.length sba) (x := .slice a_sba (List.length sba) c_sba) (bytes := 1) En585 (by kernel_rfl) Hv583 rfl (bys_len _) (Reads.src (size := 1) (tx := 22) (e' := 5) (by kernel_rfl) (i_sba.ev Hv583).reads (bys_len _) i_sba.nz (bys_one _)) (by kernel_rfl) (z := .int .u8 0) (by kernel_rfl) rfl (by decide) (by omega) (by unfold maxLen; omega) ?_
        intro ac591 wo592 ao587 cp588 En593 Hv594 _ _
        rw [← bys_append] at Hv594
        have ehz589 : (List.length sa) + (List.length sba) = List.length (sa ++ sba) := (by first | (simp; done) | (simp; omega) | omega)
        rw [ehz589] at En593
        refine any_at 12 (by kernel_rfl) rfl ?_
        have hcap595 := bys_vcap Hv594.heap (k := 9) rfl
        refine op_slice (d := some 41) (t := 22) (e := 5) (sz := 1) (len := List.length (sa ++ sba)) (cap := cp588) (lo := List.length scb) (hi := List.length (sa ++ sba)) (ao := ao587) (lov := (some (.int .i64 ((List.length scb : Nat) : Int)))) (hiv := none) En593 (by kernel_rfl) (by kernel_rfl) (by kernel_rfl) (by omega) (by omega) (.inr ⟨.i64, rfl⟩) (.inl ⟨rfl, rfl⟩) ?_
        intro ac596 En597
        have Hv598 : Ev w [] wo592 [.box bq18 [.slice auq18 (List.length (List.drop (List.length scb) (sa ++ sba))) cuq18, .bool sbc, .slice adq18 (List.length (List.drop (List.length sbb) sca)) cdq18, .bool scc, .slice ahq18 (List.length sa) chq18, .slice apq18 (List.length sba) cpq18, .slice aqq18 (List.length sbb) cqq18, .bool sbc, .bool sbd, .slice arq18 (List.length sca) crq18, .slice avq18 (List.length scb) cvq18, .bool scc, .bool scd] 66, .vec ahq18 chq18 1 (bys sa) 5, .vec apq18 cpq18 1 (bys sba) 5, .vec aqq18 cqq18 1 (bys sbb) 5, .vec arq18 crq18 1 (bys sca) 5, .vec avq18 cvq18 1 (bys scb) 5, .vec auq18 cuq18 1 (bys (List.drop (List.length scb) (sa ++ sba))) 5, .vec adq18 cdq18 1 (bys (List.drop (List.length sbb) sca)) 5, .box bk1 [.slice a_sa (List.length sa) c_sa, .slice a_sba (List.length sba) c_sba, .slice a_sbb (List.length sbb) c_sbb, .bool sbc, .bool sbd, .slice a_sca (List.length sca) c_sca, .slice a_scb (List.length scb) c_scb, .bool scc, .bool scd] 26, .vec (cutAt ao587 cp588 (List.length scb) 1) (cp588 - (List.length scb)) 1 (bys (List.drop (List.length scb) (sa ++ sba))) 5] := by
          have h := Ev.cut (k := 9) (n := List.length (sa ++ sba)) (sz := 1) Hv594 rfl (bys_len _) (by omega) (List.length scb) (List.length (sa ++ sba)) (by omega) (by omega)
          rw [bys_cutw (l := sa ++ sba) (lo := List.length scb) (n := List.length (sa ++ sba)) (by simp)] at h
          exact h
        have el599 : (List.length (sa ++ sba)) - (List.length scb) = List.length (List.drop (List.length scb) (sa ++ sba)) := by first | (simp; done) | (simp; omega)
        rw [el599] at En597
        refine any_pureR (d := some 8) En597 (v := .slice (cutAt ao587 cp588 (List.length scb) 1) (List.length (List.drop (List.length scb) (sa ++ sba))) (cp588 - (List.length scb))) 13 (by kernel_rfl) (by kernel_rfl) rfl ?_
        intro ac600 En601
        exact any_end (by kernel_rfl) ⟨ao587, cp588, En601.sub (by kernel_rfl), Hv598.pick [0, 1, 2, 3, 4, 5, 6, 7, 8, 9] (by kernel_rfl) (by decide)⟩
      have nd602 : ∀ (ac : Act) (wo : World) (bk141 : Nat), Env ac 77 [(1, .slice a_m (List.length m) c_m), (2, .pointer (some ⟨bk1, 0, none⟩)), (4, .bool false), (6, .pointer (some ⟨bq18, 0, none⟩)), (7, .bool true), (29, .slice (some ⟨bk141, 0, none⟩) 0 0), (31, .slice a_sa (List.length sa) c_sa), (35, .slice a_sba (List.length sba) c_sba), (40, .int .i64 ((List.length scb : Nat) : Int))] → Ev w [] wo [.box bq18 [.slice auq18 (List.length (List.drop (List.length scb) (sa ++ sba))) cuq18, .bool sbc, .slice adq18 (List.length (List.drop (List.length sbb) sca)) cdq18, .bool scc, .slice ahq18 (List.length sa) chq18, .slice apq18 (List.length sba) cpq18, .slice aqq18 (List.length sbb) cqq18, .bool sbc, .bool sbd, .slice arq18 (List.length sca) crq18, .slice avq18 (List.length scb) cvq18, .bool scc, .bool scd] 66, .vec ahq18 chq18 1 (bys sa) 5, .vec apq18 cpq18 1 (bys sba) 5, .vec aqq18 cqq18 1 (bys sbb) 5, .vec arq18 crq18 1 (bys sca) 5, .vec avq18 cvq18 1 (bys scb) 5, .vec auq18 cuq18 1 (bys (List.drop (List.length scb) (sa ++ sba))) 5, .vec adq18 cdq18 1 (bys (List.drop (List.length sbb) sca)) 5, .box bk1 [.slice a_sa (List.length sa) c_sa, .slice a_sba (List.length sba) c_sba, .slice a_sbb (List.length sbb) c_sbb, .bool sbc, .bool sbd, .slice a_sca (List.length sca) c_sca, .slice a_scb (List.length scb) c_scb, .bool scc, .bool scd] 26, .vec (some ⟨bk141, 0, none⟩) 0 1 (bys []) 5] → G 4 #[true, true, true, false, true, true, true, false, true, true, true, true, false, false] ac wo := by
        intro ac603 wo604 bk141 En605 Hv606
        refine any_from hG ?_
        refine any_at 3 (by kernel_rfl) rfl ?_
        have hsm607 := i_sa.small
        refine op_append (d := some 32) (t := 22) (tx := 22) (ty := 22) (k := 9) (p := 0) (m := List.length sa) (x := .slice a_sa (List.length sa) c_sa) (bytes := 1) En605 (by kernel_rfl) Hv606 rfl rfl (Reads.src (size := 1) (tx := 22) (e' := 5) (by kernel_rfl) (i_sa.ev Hv606).reads (bys_len _) i_sa.nz (bys_one _)) (by kernel_rfl) (z := .int .u8 0) (by kernel_rfl) rfl (by decide) (by omega) (by unfold maxLen; omega) ?_
        intro ac612 wo613 ao608 cp609 En614 Hv615 _ _
        rw [bys_nil_append] at Hv615
        have ehz610 : 0 + (List.length sa) = List.length sa := (by first | (simp; done) | (simp; omega) | omega)
        rw [ehz610] at En614
        refine any_at 7 (by kernel_rfl) rfl ?_
        have hsm616 := i_sba.small
        refine op_append (d := some 36) (t := 22) (tx := 22) (ty := 22) (k := 9) (p := List.length sa) (m := List.length sba) (x := .slice a_sba (List.length sba) c_sba) (bytes := 1) En614 (by kernel_rfl) Hv615 rfl (bys_len _) (Reads.src (size := 1) (tx := 22) (e' := 5) (by kernel_rfl) (i_sba.ev Hv615).reads (bys_len _) i_sba.nz (bys_one _)) (by kernel_rfl) (z := .int .u8 0) (by kernel_rfl) rfl (by decide) (by omega) (by unfold maxLen; omega) ?_
        intro ac621 wo622 ao617 cp618 En623 Hv624 _ _
        rw [← bys_append] at Hv624
        have ehz619 : (List.length sa) + (List.length sba) = List.length (sa ++ sba) := (by first | (simp; done) | (simp; omega) | omega)
        rw [ehz619] at En623
        refine any_at 12 (by kernel_rfl) rfl ?_
        have hcap625 := bys_vcap Hv624.heap (k := 9) rfl
        refine op_slice (d := some 41) (t := 22) (e := 5) (sz := 1) (len := List.length (sa ++ sba)) (cap := cp618) (lo := List.length scb) (hi := List.length (sa ++ sba)) (ao := ao617) (lov := (some (.int .i64 ((List.length scb : Nat) : Int)))) (hiv := none) En623 (by kernel_rfl) (by kernel_rfl) (by kernel_rfl) (by omega) (by omega) (.inr ⟨.i64, rfl⟩) (.inl ⟨rfl, rfl⟩) ?_
        intro ac626 En627
        have Hv628 : Ev w [] wo622 [.box bq18 [.slice auq18 (List.length (List.drop (List.length scb) (sa ++ sba))) cuq18, .bool sbc, .slice adq18 (List.length (List.drop (List.length sbb) sca)) cdq18, .bool scc, .slice ahq18 (List.length sa) chq18, .slice apq18 (List.length sba) cpq18, .slice aqq18 (List.length sbb) cqq18, .bool sbc, .bool sbd, .slice arq18 (List.length sca) crq18, .slice avq18 (List.length scb) cvq18, .bool scc, .bool scd] 66, .vec ahq18 chq18 1 (bys sa) 5, .vec apq18 cpq18 1 (bys sba) 5, .vec aqq18 cqq18 1 (bys sbb) 5, .vec arq18 crq18 1 (bys sca) 5, .vec avq18 cvq18 1 (bys scb) 5, .vec auq18 cuq18 1 (bys (List.drop (List.length scb) (sa ++ sba))) 5, .vec adq18 cdq18 1 (bys (List.drop (List.length sbb) sca)) 5, .box bk1 [.slice a_sa (List.length sa) c_sa, .slice a_sba (List.length sba) c_sba, .slice a_sbb (List.length sbb) c_sbb, .bool sbc, .bool sbd, .slice a_sca (List.length sca) c_sca, .slice a_scb (List.length scb) c_scb, .bool scc, .bool scd] 26, .vec (cutAt ao617 cp618 (List.length scb) 1) (cp618 - (List.length scb)) 1 (bys (List.drop (List.length scb) (sa ++ sba))) 5] := by
          have h := Ev.cut (k := 9) (n := List.length (sa ++ sba)) (sz := 1) Hv624 rfl (bys_len _) (by omega) (List.length scb) (List.length (sa ++ sba)) (by omega) (by omega)
          rw [bys_cutw (l := sa ++ sba) (lo := List.length scb) (n := List.length (sa ++ sba)) (by simp)] at h
          exact h
        have el629 : (List.length (sa ++ sba)) - (List.length scb) = List.length (List.drop (List.length scb) (sa ++ sba)) := by first | (simp; done) | (simp; omega)
        rw [el629] at En627
        refine any_pureR (d := some 8) En627 (v := .slice (cutAt ao617 cp618 (List.length scb) 1) (List.length (List.drop (List.length scb) (sa ++ sba))) (cp618 - (List.length scb))) 13 (by kernel_rfl) (by kernel_rfl) rfl ?_
        intro ac630 En631
        exact any_end (by kernel_rfl) ⟨ao617, cp618, En631.sub (by kernel_rfl), Hv628.pick [0, 1, 2, 3, 4, 5, 6, 7, 8, 9] (by kernel_rfl) (by decide)⟩
      have nd632 : ∀ (ac : Act) (wo : World) (ao149 : Option Addr) (cp150 : Nat), Env ac 77 [(1, .slice a_m (List.length m) c_m), (2, .pointer (some ⟨bk1, 0, none⟩)), (4, .bool false), (6, .pointer (some ⟨bq18, 0, none⟩)), (7, .bool true), (32, .slice ao149 (List.length sa) cp150), (35, .slice a_sba (List.length sba) c_sba), (38, .pointer (some ⟨bk1, 6, none⟩))] → Ev w [] wo [.box bq18 [.slice auq18 (List.length (List.drop (List.length scb) (sa ++ sba))) cuq18, .bool sbc, .slice adq18 (List.length (List.drop (List.length sbb) sca)) cdq18, .bool scc, .slice ahq18 (List.length sa) chq18, .slice apq18 (List.length sba) cpq18, .slice aqq18 (List.length sbb) cqq18, .bool sbc, .bool sbd, .slice arq18 (List.length sca) crq18, .slice avq18 (List.length scb) cvq18, .bool scc, .bool scd] 66, .vec ahq18 chq18 1 (bys sa) 5, .vec apq18 cpq18 1 (bys sba) 5, .vec aqq18 cqq18 1 (bys sbb) 5, .vec arq18 crq18 1 (bys sca) 5, .vec avq18 cvq18 1 (bys scb) 5, .vec auq18 cuq18 1 (bys (List.drop (List.length scb) (sa ++ sba))) 5, .vec adq18 cdq18 1 (bys (List.drop (List.length sbb) sca)) 5, .box bk1 [.slice a_sa (List.length sa) c_sa, .slice a_sba (List.length sba) c_sba, .slice a_sbb (List.length sbb) c_sbb, .bool sbc, .bool sbd, .slice a_sca (List.length sca) c_sca, .slice a_scb (List.length scb) c_scb, .bool scc, .bool scd] 26, .vec ao149 cp150 1 (bys sa) 5] → G 5 #[true, true, true, true, true, true, true, false, true, true, false, false, false, false] ac wo := by
        intro ac633 wo634 ao149 cp150 En635 Hv636
        refine any_from hG ?_
        refine any_two 7 10 (by kernel_rfl) ?_ ?_
        · rintro _ rfl
          have hsm637 := i_sba.small
          refine op_append (d := some 36) (t := 22) (tx := 22) (ty := 22) (k := 9) (p := List.length sa) (m := List.length sba) (x := .slice a_sba (List.length sba) c_sba) (bytes := 1) En635 (by kernel_rfl) Hv636 rfl (bys_len _) (Reads.src (size := 1) (tx := 22) (e' := 5) (by kernel_rfl) (i_sba.ev Hv636).reads (bys_len _) i_sba.nz (bys_one _)) (by kernel_rfl) (z := .int .u8 0) (by kernel_rfl) rfl (by decide) (by omega) (by unfold maxLen; omega) ?_
          intro ac642 wo643 ao638 cp639 En644 Hv645 _ _
          rw [← bys_append] at Hv645
          have ehz640 : (List.length sa) + (List.length sba) = List.length (sa ++ sba) := (by first | (simp; done) | (simp; omega) | omega)
          rw [ehz640] at En644
          exact any_to hG (by kernel_rfl) (nd540 _ _ ao638 cp639 (En644.sub (by kernel_rfl)) (Hv645.pick [0, 1, 2, 3, 4, 5, 6, 7, 8, 9] (by kernel_rfl) (by decide)))
        · rintro _ rfl
          refine op_loadbox (d := some 39) (t := 22) (b := bk1) (off := 6) (k := 8) (v := .slice a_scb (List.length scb) c_scb) En635 (by kernel_rfl) Hv636 rfl rfl (by kernel_rfl) ?_
          intro ac646 En647
          exact any_to hG (by kernel_rfl) (nd556 _ _ ao149 cp150 (En647.sub (by kernel_rfl)) (Hv636.pick [0, 1, 2, 3, 4, 5, 6, 7, 8, 9] (by kernel_rfl) (by decide)))
      have nd648 : ∀ (ac : Act) (wo : World) (ao149 : Option Addr) (cp150 : Nat), Env ac 77 [(1, .slice a_m (List.length m) c_m), (2, .pointer (some ⟨bk1, 0, none⟩)), (4, .bool false), (6, .pointer (some ⟨bq18, 0, none⟩)), (7, .bool true), (32, .slice ao149 (List.length sa) cp150), (34, .pointer (some ⟨bk1, 1, none⟩)), (39, .slice a_scb (List.length scb) c_scb)] → Ev w [] wo [.box bq18 [.slice auq18 (List.length (List.drop (List.length scb) (sa ++ sba))) cuq18, .bool sbc, .slice adq18 (List.length (List.drop (List.length sbb) sca)) cdq18, .bool scc, .slice ahq18 (List.length sa) chq18, .slice apq18 (List.length sba) cpq18, .slice aqq18 (List.length sbb) cqq18, .bool sbc, .bool sbd, .slice arq18 (List.length sca) crq18, .slice avq18 (List.length scb) cvq18, .bool scc, .bool scd] 66, .vec ahq18 chq18 1 (bys sa) 5, .vec apq18 cpq18 1 (bys sba) 5, .vec aqq18 cqq18 1 (bys sbb) 5, .vec arq18 crq18 1 (bys sca) 5, .vec avq18 cvq18 1 (bys scb) 5, .vec auq18 cuq18 1 (bys (List.drop (List.length scb) (sa ++ sba))) 5, .vec adq18 cdq18 1 (bys (List.drop (List.length sbb) sca)) 5, .box bk1 [.slice a_sa (List.length sa) c_sa, .slice a_sba (List.length sba) c_sba, .slice a_sbb (List.length sbb) c_sbb, .bool sbc, .bool sbd, .slice a_sca (List.length sca) c_sca, .slice a_scb (List.length scb) c_scb, .bool scc, .bool scd] 26, .vec ao149 cp150 1 (bys sa) 5] → G 5 #[true, true, true, true, true, true, false, false, true, true, true, false, false, false] ac wo := by
        intro ac649 wo650 ao149 cp150 En651 Hv652
        refine any_from hG ?_
        refine any_pureR (d := some 40) En651 (v := .int .i64 ((List.length scb : Nat) : Int)) 11 (by kernel_rfl) (by kernel_rfl) rfl ?_
        intro ac653 En654
        refine any_at 6 (by kernel_rfl) rfl ?_
        refine op_loadbox (d := some 35) (t := 22) (b := bk1) (off := 1) (k := 8) (v := .slice a_sba (List.length sba) c_sba) En654 (by kernel_rfl) Hv652 rfl rfl (by kernel_rfl) ?_
        intro ac655 En656
        refine any_at 7 (by kernel_rfl) rfl ?_
        have hsm657 := i_sba.small
        refine op_append (d := some 36) (t := 22) (tx := 22) (ty := 22) (k := 9) (p := List.length sa) (m := List.length sba) (x := .slice a_sba (List.length sba) c_sba) (bytes := 1) En656 (by kernel_rfl) Hv652 rfl (bys_len _) (Reads.src (size := 1) (tx := 22) (e' := 5) (by kernel_rfl) (i_sba.ev Hv652).reads (bys_len _) i_sba.nz (bys_one _)) (by kernel_rfl) (z := .int .u8 0) (by kernel_rfl) rfl (by decide) (by omega) (by unfold maxLen; omega) ?_
        intro ac662 wo663 ao658 cp659 En664 Hv665 _ _
        rw [← bys_append] at Hv665
        have ehz660 : (List.length sa) + (List.length sba) = List.length (sa ++ sba) := (by first | (simp; done) | (simp; omega) | omega)
        rw [ehz660] at En664
        refine any_at 12 (by kernel_rfl) rfl ?_
        have hcap666 := bys_vcap Hv665.heap (k := 9) rfl
        refine op_slice (d := some 41) (t := 22) (e := 5) (sz := 1) (len := List.length (sa ++ sba)) (cap := cp659) (lo := List.length scb) (hi := List.length (sa ++ sba)) (ao := ao658) (lov := (some (.int .i64 ((List.length scb : Nat) : Int)))) (hiv := none) En664 (by kernel_rfl) (by kernel_rfl) (by kernel_rfl) (by omega) (by omega) (.inr ⟨.i64, rfl⟩) (.inl ⟨rfl, rfl⟩) ?_
        intro ac667 En668
        have Hv669 : Ev w [] wo663 [.box bq18 [.slice auq18 (List.length (List.drop (List.length scb) (sa ++ sba))) cuq18, .bool sbc, .slice adq18 (List.length (List.drop (List.length sbb) sca)) cdq18, .bool scc, .slice ahq18 (List.length sa) chq18, .slice apq18 (List.length sba) cpq18, .slice aqq18 (List.length sbb) cqq18, .bool sbc, .bool sbd, .slice arq18 (List.length sca) crq18, .slice avq18 (List.length scb) cvq18, .bool scc, .bool scd] 66, .vec ahq18 chq18 1 (bys sa) 5, .vec apq18 cpq18 1 (bys sba) 5, .vec aqq18 cqq18 1 (bys sbb) 5, .vec arq18 crq18 1 (bys sca) 5, .vec avq18 cvq18 1 (bys scb) 5, .vec auq18 cuq18 1 (bys (List.drop (List.length scb) (sa ++ sba))) 5, .vec adq18 cdq18 1 (bys (List.drop (List.length sbb) sca)) 5, .box bk1 [.slice a_sa (List.length sa) c_sa, .slice a_sba (List.length sba) c_sba, .slice a_sbb (List.length sbb) c_sbb, .bool sbc, .bool sbd, .slice a_sca (List.length sca) c_sca, .slice a_scb (List.length scb) c_scb, .bool scc, .bool scd] 26, .vec (cutAt ao658 cp659 (List.length scb) 1) (cp659 - (List.length scb)) 1 (bys (List.drop (List.length scb) (sa ++ sba))) 5] := by
          have h := Ev.cut (k := 9) (n := List.length (sa ++ sba)) (sz := 1) Hv665 rfl (bys_len _) (by omega) (List.length scb) (List.length (sa ++ sba)) (by omega) (by omega)
          rw [bys_cutw (l := sa ++ sba) (lo := List.length scb) (n := List.length (sa ++ sba)) (by simp)] at h
          exact h
        have el670 : (List.length (sa ++ sba)) - (List.length scb) = List.length (List.drop (List.length scb) (sa ++ sba)) := by first | (simp; done) | (simp; omega)
        rw [el670] at En668
        refine any_pureR (d := some 8) En668 (v := .slice (cutAt ao658 cp659 (List.length scb) 1) (List.length (List.drop (List.length scb) (sa ++ sba))) (cp659 - (List.length scb))) 13 (by kernel_rfl) (by kernel_rfl) rfl ?_
        intro ac671 En672
        exact any_end (by kernel_rfl) ⟨ao658, cp659, En672.sub (by kernel_rfl), Hv669.pick [0, 1, 2, 3, 4, 5, 6, 7, 8, 9] (by kernel_rfl) (by decide)⟩
      have nd673 : ∀ (ac : Act) (wo : World) (bk141 : Nat), Env ac 77 [(1, .slice a_m (List.length m) c_m), (2, .pointer (some ⟨bk1, 0, none⟩)), (4, .bool false), (6, .pointer (some ⟨bq18, 0, none⟩)), (7, .bool true), (29, .slice (some ⟨bk141, 0, none⟩) 0 0), (31, .slice a_sa (List.length sa) c_sa), (35, .slice a_sba (List.length sba) c_sba), (39, .slice a_scb (List.length scb) c_scb)] → Ev w [] wo [.box bq18 [.slice auq18 (List.length (List.drop (List.length scb) (sa ++ sba))) cuq18, .bool sbc, .slice adq18 (List.length (List.drop (List.length sbb) sca)) cdq18, .bool scc, .slice ahq18 (List.length sa) chq18, .slice apq18 (List.length sba) cpq18, .slice aqq18 (List.length sbb) cqq18, .bool sbc, .bool sbd, .slice arq18 (List.length sca) crq18, .slice avq18 (List.length scb) cvq18, .bool scc, .bool scd] 66, .vec ahq18 chq18 1 (bys sa) 5, .vec apq18 cpq18 1 (bys sba) 5, .vec aqq18 cqq18 1 (bys sbb) 5, .vec arq18 crq18 1 (bys sca) 5, .vec avq18 cvq18 1 (bys scb) 5, .vec auq18 cuq18 1 (bys (List.drop (List.length scb) (sa ++ sba))) 5, .vec adq18 cdq18 1 (bys (List.drop (List.length sbb) sca)) 5, .box bk1 [.slice a_sa (List.length sa) c_sa, .slice a_sba (List.length sba) c_sba, .slice a_sbb (List.length sbb) c_sbb, .bool sbc, .bool sbd, .slice a_sca (List.length sca) c_sca, .slice a_scb (List.length scb) c_scb, .bool scc, .bool scd] 26, .vec (some ⟨bk141, 0, none⟩) 0 1 (bys []) 5] → G 5 #[true, true, true, false, true, true, true, false, true, true, true, false, false, false] ac wo := by
        intro ac674 wo675 bk141 En676 Hv677
        refine any_from hG ?_
        refine any_pureR (d := some 40) En676 (v := .int .i64 ((List.length scb : Nat) : Int)) 11 (by kernel_rfl) (by kernel_rfl) rfl ?_
        intro ac678 En679
        refine any_at 3 (by kernel_rfl) rfl ?_
        have hsm680 := i_sa.small
        refine op_append (d := some 32) (t := 22) (tx := 22) (ty := 22) (k := 9) (p := 0) (m := List.length sa) (x := .slice a_sa (List.length sa) c_sa) (bytes := 1) En679 (by kernel_rfl) Hv677 rfl rfl (Reads.src (size := 1) (tx := 22) (e' := 5) (by kernel_rfl) (i_sa.ev Hv677).reads (bys_len _) i_sa.nz (bys_one _)) (by kernel_rfl) (z := .int .u8 0) (by kernel_rfl) rfl (by decide) (by omega) (by unfold maxLen; omega) ?_
        intro ac685 wo686 ao681 cp682 En687 Hv688 _ _
        rw [bys_nil_append] at Hv688
        have ehz683 : 0 + (List.length sa) = List.length sa := (by first | (simp; done) | (simp; omega) | omega)
        rw [ehz683] at En687
        refine any_at 7 (by kernel_rfl) rfl ?_
        have hsm689 := i_sba.small
        refine op_append (d := some 36) (t := 22) (tx := 22) (ty := 22) (k := 9) (p := List.length sa) (m := List.length sba) (x := .slice a_sba (List.length sba) c_sba) (bytes := 1) En687 (by kernel_rfl) Hv688 rfl (bys_len _) (Reads.src (size := 1) (tx := 22) (e' := 5) (by kernel_rfl) (i_sba.ev Hv688).reads (bys_len _) i_sba.nz (bys_one _)) (by kernel_rfl) (z := .int .u8 0) (by kernel_rfl) rfl (by decide) (by omega) (by unfold maxLen; omega) ?_
        intro ac694 wo695 ao690 cp691 En696 Hv697 _ _
        rw [← bys_append] at Hv697
        have ehz692 : (List.length sa) + (List.length sba) = List.length (sa ++ sba) := (by first | (simp; done) | (simp; omega) | omega)
        rw [ehz692] at En696
        refine any_at 12 (by kernel_rfl) rfl ?_
        have hcap698 := bys_vcap Hv697.heap (k := 9) rfl
        refine op_slice (d := some 41) (t := 22) (e := 5) (sz := 1) (len := List.length (sa ++ sba)) (cap := cp691) (lo := List.length scb) (hi := List.length (sa ++ sba)) (ao := ao690) (lov := (some (.int .i64 ((List.length scb : Nat) : Int)))) (hiv := none) En696 (by kernel_rfl) (by kernel_rfl) (by kernel_rfl) (by omega) (by omega) (.inr ⟨.i64, rfl⟩) (.inl ⟨rfl, rfl⟩) ?_
        intro ac699 En700
        have Hv701 : Ev w [] wo695 [.box bq18 [.slice auq18 (List.length (List.drop (List.length scb) (sa ++ sba))) cuq18, .bool sbc, .slice adq18 (List.length (List.drop (List.length sbb) sca)) cdq18, .bool scc, .slice ahq18 (List.length sa) chq18, .slice apq18 (List.length sba) cpq18, .slice aqq18 (List.length sbb) cqq18, .bool sbc, .bool sbd, .slice arq18 (List.length sca) crq18, .slice avq18 (List.length scb) cvq18, .bool scc, .bool scd] 66, .vec ahq18 chq18 1 (bys sa) 5, .vec apq18 cpq18 1 (bys sba) 5, .vec aqq18 cqq18 1 (bys sbb) 5, .vec arq18 crq18 1 (bys sca) 5, .vec avq18 cvq18 1 (bys scb) 5, .vec auq18 cuq18 1 (bys (List.drop (List.length scb) (sa ++ sba))) 5, .vec adq18 cdq18 1 (bys (List.drop (List.length sbb) sca)) 5, .box bk1 [.slice a_sa (List.length sa) c_sa, .slice a_sba (List.length sba) c_sba, .slice a_sbb (List.length sbb) c_sbb, .bool sbc, .bool sbd, .slice a_sca (List.length sca) c_sca, .slice a_scb (List.length scb) c_scb, .bool scc, .bool scd] 26, .vec (cutAt ao690 cp691 (List.length scb) 1) (cp691 - (List.length scb)) 1 (bys (List.drop (List.length scb) (sa ++ sba))) 5] := by
          have h := Ev.cut (k := 9) (n := List.length (sa ++ sba)) (sz := 1) Hv697 rfl (bys_len _) (by omega) (List.length scb) (List.length (sa ++ sba)) (by omega) (by omega)
          rw [bys_cutw (l := sa ++ sba) (lo := List.length scb) (n := List.length (sa ++ sba)) (by simp)] at h
          exact h
        have el702 : (List.length (sa ++ sba)) - (List.length scb) = List.length (List.drop (List.length scb) (sa ++ sba)) := by first | (simp; done) | (simp; omega)
        rw [el702] at En700
        refine any_pureR (d := some 8) En700 (v := .slice (cutAt ao690 cp691 (List.length scb) 1) (List.length (List.drop (List.length scb) (sa ++ sba))) (cp691 - (List.length scb))) 13 (by kernel_rfl) (by kernel_rfl) rfl ?_
        intro ac703 En704
        exact any_end (by kernel_rfl) ⟨ao690, cp691, En704.sub (by kernel_rfl), Hv701.pick [0, 1, 2, 3, 4, 5, 6, 7, 8, 9] (by kernel_rfl) (by decide)⟩
      have nd705 : ∀ (ac : Act) (wo : World) (bk141 : Nat), Env ac 77 [(1, .slice a_m (List.length m) c_m), (2, .pointer (some ⟨bk1, 0, none⟩)), (4, .bool false), (6, .pointer (some ⟨bq18, 0, none⟩)), (7, .bool true), (29, .slice (some ⟨bk141, 0, none⟩) 0 0), (31, .slice a_sa (List.length sa) c_sa), (34, .pointer (some ⟨bk1, 1, none⟩)), (40, .int .i64 ((List.length scb : Nat) : Int))] → Ev w [] wo [.box bq18 [.slice auq18 (List.length (List.drop (List.length scb) (sa ++ sba))) cuq18, .bool sbc, .slice adq18 (List.length (List.drop (List.length sbb) sca)) cdq18, .bool scc, .slice ahq18 (List.length sa) chq18, .slice apq18 (List.length sba) cpq18, .slice aqq18 (List.length sbb) cqq18, .bool sbc, .bool sbd, .slice arq18 (List.length sca) crq18, .slice avq18 (List.length scb) cvq18, .bool scc, .bool scd] 66, .vec ahq18 chq18 1 (bys sa) 5, .vec apq18 cpq18 1 (bys sba) 5, .vec aqq18 cqq18 1 (bys sbb) 5, .vec arq18 crq18 1 (bys sca) 5, .vec avq18 cvq18 1 (bys scb) 5, .vec auq18 cuq18 1 (bys (List.drop (List.length scb) (sa ++ sba))) 5, .vec adq18 cdq18 1 (bys (List.drop (List.length sbb) sca)) 5, .box bk1 [.slice a_sa (List.length sa) c_sa, .slice a_sba (List.length sba) c_sba, .slice a_sbb (List.length sbb) c_sbb, .bool sbc, .bool sbd, .slice a_sca (List.length sca) c_sca, .slice a_scb (List.length scb) c_scb, .bool scc, .bool scd] 26, .vec (some ⟨bk141, 0, none⟩) 0 1 (bys []) 5] → G 5 #[true, true, true, false, true, true, false, false, true, true, true, true, false, false] ac wo := by
        intro ac706 wo707 bk141 En708 Hv709
        refine any_from hG ?_
        refine any_two 3 6 (by kernel_rfl) ?_ ?_
        · rintro _ rfl
          have hsm710 := i_sa.small
          refine op_append (d := some 32) (t := 22) (tx := 22) (ty := 22) (k := 9) (p := 0) (m := List.length sa) (x := .slice a_sa (List.length sa) c_sa) (bytes := 1) En708 (by kernel_rfl) Hv709 rfl rfl (Reads.src (size := 1) (tx := 22) (e' := 5) (by kernel_rfl) (i_sa.ev Hv709).reads (bys_len _) i_sa.nz (bys_one _)) (by kernel_rfl) (z := .int .u8 0) (by kernel_rfl) rfl (by decide) (by omega) (by unfold maxLen; omega) ?_
          intro ac715 wo716 ao711 cp712 En717 Hv718 _ _
          rw [bys_nil_append] at Hv718
          have ehz713 : 0 + (List.length sa) = List.length sa := (by first | (simp; done) | (simp; omega) | omega)
          rw [ehz713] at En717
          exact any_to hG (by kernel_rfl) (nd579 _ _ ao711 cp712 (En717.sub (by kernel_rfl)) (Hv718.pick [0, 1, 2, 3, 4, 5, 6, 7, 8, 9] (by kernel_rfl) (by decide)))
        · rintro _ rfl
          refine op_loadbox (d := some 35) (t := 22) (b := bk1) (off := 1) (k := 8) (v := .slice a_sba (List.length sba) c_sba) En708 (by kernel_rfl) Hv709 rfl rfl (by kernel_rfl) ?_
          intro ac719 En720
          exact any_to hG (by kernel_rfl) (nd602 _ _ bk141 (En720.sub (by kernel_rfl)) (Hv709.pick [0, 1, 2, 3, 4, 5, 6, 7, 8, 9] (by kernel_rfl) (by decide)))
      have nd721 : ∀ (ac : Act) (wo : World) (bk141 : Nat), Env ac 77 [(1, .slice a_m (List.length m) c_m), (2, .pointer (some ⟨bk1, 0, none⟩)), (4, .bool false), (6, .pointer (some ⟨bq18, 0, none⟩)), (7, .bool true), (29, .slice (some ⟨bk141, 0, none⟩) 0 0), (30, .pointer (some ⟨bk1, 0, none⟩)), (35, .slice a_sba (List.length sba) c_sba), (40, .int .i64 ((List.length scb : Nat) : Int))] → Ev w [] wo [.box bq18 [.slice auq18 (List.length (List.drop (List.length scb) (sa ++ sba))) cuq18, .bool sbc, .slice adq18 (List.length (List.drop (List.length sbb) sca)) cdq18, .bool scc, .slice ahq18 (List.length sa) chq18, .slice apq18 (List.length sba) cpq18, .slice aqq18 (List.length sbb) cqq18, .bool sbc, .bool sbd, .slice arq18 (List.length sca) crq18, .slice avq18 (List.length scb) cvq18, .bool scc, .bool scd] 66, .vec ahq18 chq18 1 (bys sa) 5, .vec apq18 cpq18 1 (bys sba) 5, .vec aqq18 cqq18 1 (bys sbb) 5, .vec arq18 crq18 1 (bys sca) 5, .vec avq18 cvq18 1 (bys scb) 5, .vec auq18 cuq18 1 (bys (List.drop (List.length scb) (sa ++ sba))) 5, .vec adq18 cdq18 1 (bys (List.drop (List.length sbb) sca)) 5, .box bk1 [.slice a_sa (List.length sa) c_sa, .slice a_sba (List.length sba) c_sba, .slice a_sbb (List.length sbb) c_sbb, .bool sbc, .bool sbd, .slice a_sca (List.length sca) c_sca, .slice a_scb (List.length scb) c_scb, .bool scc, .bool scd] 26, .vec (some ⟨bk141, 0, none⟩) 0 1 (bys []) 5] → G 5 #[true, true, false, false, true, true, true, false, true, true, true, true, false, false] ac wo := by
        intro ac722 wo723 bk141 En724 Hv725
        refine any_from hG ?_
        refine any_at 2 (by kernel_rfl) rfl ?_
        refine op_loadbox (d := some 31) (t := 22) (b := bk1) (off := 0) (k := 8) (v := .slice a_sa (List.length sa) c_sa) En724 (by kernel_rfl) Hv725 rfl rfl (by kernel_rfl) ?_
        intro ac726 En727
        refine any_at 3 (by kernel_rfl) rfl ?_
        have hsm728 := i_sa.small
        refine op_append (d := some 32) (t := 22) (tx := 22) (ty := 22) (k := 9) (p := 0) (m := List.length sa) (x := .slice a_sa (List.length sa) c_sa) (bytes := 1) En727 (by kernel_rfl) Hv725 rfl rfl (Reads.src (size := 1) (tx := 22) (e' := 5) (by kernel_rfl) (i_sa.ev Hv725).reads (bys_len _) i_sa.nz (bys_one _)) (by kernel_rfl) (z := .int .u8 0) (by kernel_rfl) rfl (by decide) (by omega) (by unfold maxLen; omega) ?_
        intro ac733 wo734 ao729 cp730 En735 Hv736 _ _
        rw [bys_nil_append] at Hv736
        have ehz731 : 0 + (List.length sa) = List.length sa := (by first | (simp; done) | (simp; omega) | omega)
        rw [ehz731] at En735
        refine any_at 7 (by kernel_rfl) rfl ?_
        have hsm737 := i_sba.small
        refine op_append (d := some 36) (t := 22) (tx := 22) (ty := 22) (k := 9) (p := List.length sa) (m := List.length sba) (x := .slice a_sba (List.length sba) c_sba) (bytes := 1) En735 (by kernel_rfl) Hv736 rfl (bys_len _) (Reads.src (size := 1) (tx := 22) (e' := 5) (by kernel_rfl) (i_sba.ev Hv736).reads (bys_len _) i_sba.nz (bys_one _)) (by kernel_rfl) (z := .int .u8 0) (by kernel_rfl) rfl (by decide) (by omega) (by unfold maxLen; omega) ?_
        intro ac742 wo743 ao738 cp739 En744 Hv745 _ _
        rw [← bys_append] at Hv745
        have ehz740 : (List.length sa) + (List.length sba) = List.length (sa ++ sba) := (by first | (simp; done) | (simp; omega) | omega)
        rw [ehz740] at En744
        refine any_at 12 (by kernel_rfl) rfl ?_
        have hcap746 := bys_vcap Hv745.heap (k := 9) rfl
        refine op_slice (d := some 41) (t := 22) (e := 5) (sz := 1) (len := List.length (sa ++ sba)) (cap := cp739) (lo := List.length scb) (hi := List.length (sa ++ sba)) (ao := ao738) (lov := (some (.int .i64 ((List.length scb : Nat) : Int)))) (hiv := none) En744 (by kernel_rfl) (by kernel_rfl) (by kernel_rfl) (by omega) (by omega) (.inr ⟨.i64, rfl⟩) (.inl ⟨rfl, rfl⟩) ?_
        intro ac747 En748
        have Hv749 : Ev w [] wo743 [.box bq18 [.slice auq18 (List.length (List.drop (List.length scb) (sa ++ sba))) cuq18, .bool sbc, .slice adq18 (List.length (List.drop (List.length sbb) sca)) cdq18, .bool scc, .slice ahq18 (List.length sa) chq18, .slice apq18 (List.length sba) cpq18, .slice aqq18 (List.length sbb) cqq18, .bool sbc, .bool sbd, .slice arq18 (List.length sca) crq18, .slice avq18 (List.length scb) cvq18, .bool scc, .bool scd] 66, .vec ahq18 chq18 1 (bys sa) 5, .vec apq18 cpq18 1 (bys sba) 5, .vec aqq18 cqq18 1 (bys sbb) 5, .vec arq18 crq18 1 (bys sca) 5, .vec avq18 cvq18 1 (bys scb) 5, .vec auq18 cuq18 1 (bys (List.drop (List.length scb) (sa ++ sba))) 5, .vec adq18 cdq18 1 (bys (List.drop (List.length sbb) sca)) 5, .box bk1 [.slice a_sa (List.length sa) c_sa, .slice a_sba (List.length sba) c_sba, .slice a_sbb (List.length sbb) c_sbb, .bool sbc, .bool sbd, .slice a_sca (List.length sca) c_sca, .slice a_scb (List.length scb) c_scb, .bool scc, .bool scd] 26, .vec (cutAt ao738 cp739 (List.length scb) 1) (cp739 - (List.length scb)) 1 (bys (List.drop (List.length scb) (sa ++ sba))) 5] := by
          have h := Ev.cut (k := 9) (n := List.length (sa ++ sba)) (sz := 1) Hv745 rfl (bys_len _) (by omega) (List.length scb) (List.length (sa ++ sba)) (by omega) (by omega)
          rw [bys_cutw (l := sa ++ sba) (lo := List.length scb) (n := List.length (sa ++ sba)) (by simp)] at h
          exact h
        have el750 : (List.length (sa ++ sba)) - (List.length scb) = List.length (List.drop (List.length scb) (sa ++ sba)) := by first | (simp; done) | (simp; omega)
        rw [el750] at En748
        refine any_pureR (d := some 8) En748 (v := .slice (cutAt ao738 cp739 (List.length scb) 1) (List.length (List.drop (List.length scb) (sa ++ sba))) (cp739 - (List.length scb))) 13 (by kernel_rfl) (by kernel_rfl) rfl ?_
        intro ac751 En752
        exact any_end (by kernel_rfl) ⟨ao738, cp739, En752.sub (by kernel_rfl), Hv749.pick [0, 1, 2, 3, 4, 5, 6, 7, 8, 9] (by kernel_rfl) (by decide)⟩
      have nd753 : ∀ (ac : Act) (wo : World), Env ac 77 [(1, .slice a_m (List.length m) c_m), (2, .pointer (some ⟨bk1, 0, none⟩)), (4, .bool false), (6, .pointer (some ⟨bq18, 0, none⟩)), (7, .bool true), (31, .slice a_sa (List.length sa) c_sa), (35, .slice a_sba (List.length sba) c_sba), (40, .int .i64 ((List.length scb : Nat) : Int))] → Ev w [] wo [.box bq18 [.slice auq18 (List.length (List.drop (List.length scb) (sa ++ sba))) cuq18, .bool sbc, .slice adq18 (List.length (List.drop (List.length sbb) sca)) cdq18, .bool scc, .slice ahq18 (List.length sa) chq18, .slice apq18 (List.length sba) cpq18, .slice aqq18 (List.length sbb) cqq18, .bool sbc, .bool sbd, .slice arq18 (List.length sca) crq18, .slice avq18 (List.length scb) cvq18, .bool scc, .bool scd] 66, .vec ahq18 chq18 1 (bys sa) 5, .vec apq18 cpq18 1 (bys sba) 5, .vec aqq18 cqq18 1 (bys sbb) 5, .vec arq18 crq18 1 (bys sca) 5, .vec avq18 cvq18 1 (bys scb) 5, .vec auq18 cuq18 1 (bys (List.drop (List.length scb) (sa ++ sba))) 5, .vec adq18 cdq18 1 (bys (List.drop (List.length sbb) sca)) 5, .box bk1 [.slice a_sa (List.length sa) c_sa, .slice a_sba (List.length sba) c_sba, .slice a_sbb (List.length sbb) c_sbb, .bool sbc, .bool sbd, .slice a_sca (List.length sca) c_sca, .slice a_scb (List.length scb) c_scb, .bool scc, .bool scd] 26] → G 5 #[false, true, true, false, true, true, true, false, true, true, true, true, false, false] ac wo := by
        intro ac754 wo755 En756 Hv757
        refine any_from hG ?_
        refine any_at 0 (by kernel_rfl) rfl ?_
        refine op_lit (d := some 29) (t := 22) (T := 5) (m := 0) (parts := #[]) (xs := bys []) (sz := 1) En756 (by kernel_rfl) (by kernel_rfl) rfl (by decide) Hv757 ?_
        intro ac759 wo760 bk758 En761 Hv762
        refine any_at 3 (by kernel_rfl) rfl ?_
        have hsm763 := i_sa.small
        refine op_append (d := some 32) (t := 22) (tx := 22) (ty := 22) (k := 9) (p := 0) (m := List.length sa) (x := .slice a_sa (List.length sa) c_sa) (bytes := 1) En761 (by kernel_rfl) Hv762 rfl rfl (Reads.src (size := 1) (tx := 22) (e' := 5) (by kernel_rfl) (i_sa.ev Hv762).reads (bys_len _) i_sa.nz (bys_one _)) (by kernel_rfl) (z := .int .u8 0) (by kernel_rfl) rfl (by decide) (by omega) (by unfold maxLen; omega) ?_
        intro ac768 wo769 ao764 cp765 En770 Hv771 _ _
        rw [bys_nil_append] at Hv771
        have ehz766 : 0 + (List.length sa) = List.length sa := (by first | (simp; done) | (simp; omega) | omega)
        rw [ehz766] at En770
        refine any_at 7 (by kernel_rfl) rfl ?_
        have hsm772 := i_sba.small
        refine op_append (d := some 36) (t := 22) (tx := 22) (ty := 22) (k := 9) (p := List.length sa) (m := List.length sba) (x := .slice a_sba (List.length sba) c_sba) (bytes := 1) En770 (by kernel_rfl) Hv771 rfl (bys_len _) (Reads.src (size := 1) (tx := 22) (e' := 5) (by kernel_rfl) (i_sba.ev Hv771).reads (bys_len _) i_sba.nz (bys_one _)) (by kernel_rfl) (z := .int .u8 0) (by kernel_rfl) rfl (by decide) (by omega) (by unfold maxLen; omega) ?_
        intro ac777 wo778 ao773 cp774 En779 Hv780 _ _
        rw [← bys_append] at Hv780
        have ehz775 : (List.length sa) + (List.length sba) = List.length (sa ++ sba) := (by first | (simp; done) | (simp; omega) | omega)
        rw [ehz775] at En779
        refine any_at 12 (by kernel_rfl) rfl ?_
        have hcap781 := bys_vcap Hv780.heap (k := 9) rfl
        refine op_slice (d := some 41) (t := 22) (e := 5) (sz := 1) (len := List.length (sa ++ sba)) (cap := cp774) (lo := List.length scb) (hi := List.length (sa ++ sba)) (ao := ao773) (lov := (some (.int .i64 ((List.length scb : Nat) : Int)))) (hiv := none) En779 (by kernel_rfl) (by kernel_rfl) (by kernel_rfl) (by omega) (by omega) (.inr ⟨.i64, rfl⟩) (.inl ⟨rfl, rfl⟩) ?_
        intro ac782 En783
        have Hv784 : Ev w [] wo778 [.box bq18 [.slice auq18 (List.length (List.drop (List.length scb) (sa ++ sba))) cuq18, .bool sbc, .slice adq18 (List.length (List.drop (List.length sbb) sca)) cdq18, .bool scc, .slice ahq18 (List.length sa) chq18, .slice apq18 (List.length sba) cpq18, .slice aqq18 (List.length sbb) cqq18, .bool sbc, .bool sbd, .slice arq18 (List.length sca) crq18, .slice avq18 (List.length scb) cvq18, .bool scc, .bool scd] 66, .vec ahq18 chq18 1 (bys sa) 5, .vec apq18 cpq18 1 (bys sba) 5, .vec aqq18 cqq18 1 (bys sbb) 5, .vec arq18 crq18 1 (bys sca) 5, .vec avq18 cvq18 1 (bys scb) 5, .vec auq18 cuq18 1 (bys (List.drop (List.length scb) (sa ++ sba))) 5, .vec adq18 cdq18 1 (bys (List.drop (List.length sbb) sca)) 5, .box bk1 [.slice a_sa (List.length sa) c_sa, .slice a_sba (List.length sba) c_sba, .slice a_sbb (List.length sbb) c_sbb, .bool sbc, .bool sbd, .slice a_sca (List.length sca) c_sca, .slice a_scb (List.length scb) c_scb, .bool scc, .bool scd] 26, .vec (cutAt ao773 cp774 (List.length scb) 1) (cp774 - (List.length scb)) 1 (bys (List.drop (List.length scb) (sa ++ sba))) 5] := by
          have h := Ev.cut (k := 9) (n := List.length (sa ++ sba)) (sz := 1) Hv780 rfl (bys_len _) (by omega) (List.length scb) (List.length (sa ++ sba)) (by omega) (by omega)
          rw [bys_cutw (l := sa ++ sba) (lo := List.length scb) (n := List.length (sa ++ sba)) (by simp)] at h
          exact h
        have el785 : (List.length (sa ++ sba)) - (List.length scb) = List.length (List.drop (List.length scb) (sa ++ sba)) := by first | (simp; done) | (simp; omega)
        rw [el785] at En783
        refine any_pureR (d := some 8) En783 (v := .slice (cutAt ao773 cp774 (List.length scb) 1) (List.length (List.drop (List.length scb) (sa ++ sba))) (cp774 - (List.length scb))) 13 (by kernel_rfl) (by kernel_rfl) rfl ?_
        intro ac786 En787
        exact any_end (by kernel_rfl) ⟨ao773, cp774, En787.sub (by kernel_rfl), Hv784.pick [0, 1, 2, 3, 4, 5, 6, 7, 8, 9] (by kernel_rfl) (by decide)⟩
      have nd788 : ∀ (ac : Act) (wo : World) (ao149 : Option Addr) (cp150 : Nat), Env ac 77 [(1, .slice a_m (List.length m) c_m), (2, .pointer (some ⟨bk1, 0, none⟩)), (4, .bool false), (6, .pointer (some ⟨bq18, 0, none⟩)), (7, .bool true), (32, .slice ao149 (List.length sa) cp150), (34, .pointer (some ⟨bk1, 1, none⟩)), (38, .pointer (some ⟨bk1, 6, none⟩))] → Ev w [] wo [.box bq18 [.slice auq18 (List.length (List.drop (List.length scb) (sa ++ sba))) cuq18, .bool sbc, .slice adq18 (List.length (List.drop (List.length sbb) sca)) cdq18, .bool scc, .slice ahq18 (List.length sa) chq18, .slice apq18 (List.length sba) cpq18, .slice aqq18 (List.length sbb) cqq18, .bool sbc, .bool sbd, .slice arq18 (List.length sca) crq18, .slice avq18 (List.length scb) cvq18, .bool scc, .bool scd] 66, .vec ahq18 chq18 1 (bys sa) 5, .vec apq18 cpq18 1 (bys sba) 5, .vec aqq18 cqq18 1 (bys sbb) 5, .vec arq18 crq18 1 (bys sca) 5, .vec avq18 cvq18 1 (bys scb) 5, .vec auq18 cuq18 1 (bys (List.drop (List.length scb) (sa ++ sba))) 5, .vec adq18 cdq18 1 (bys (List.drop (List.length sbb) sca)) 5, .box bk1 [.slice a_sa (List.length sa) c_sa, .slice a_sba (List.length sba) c_sba, .slice a_sbb (List.length sbb) c_sbb, .bool sbc, .bool sbd, .slice a_sca (List.length sca) c_sca, .slice a_scb (List.length scb) c_scb, .bool scc, .bool scd] 26, .vec ao149 cp150 1 (bys sa) 5] → G 6 #[true, true, true, true, true, true, false, false, true, true, false, false, false, false] ac wo := by
        intro ac789 wo790 ao149 cp150 En791 Hv792
        refine any_from hG ?_
        refine any_two 6 10 (by kernel_rfl) ?_ ?_
        · rintro _ rfl
          refine op_loadbox (d := some 35) (t := 22) (b := bk1) (off := 1) (k := 8) (v := .slice a_sba (List.length sba) c_sba) En791 (by kernel_rfl) Hv792 rfl rfl (by kernel_rfl) ?_
          intro ac793 En794
          exact any_to hG (by kernel_rfl) (nd632 _ _ ao149 cp150 (En794.sub (by kernel_rfl)) (Hv792.pick [0, 1, 2, 3, 4, 5, 6, 7, 8, 9] (by kernel_rfl) (by decide)))
        · rintro _ rfl
          refine op_loadbox (d := some 39) (t := 22) (b := bk1) (off := 6) (k := 8) (v := .slice a_scb (List.length scb) c_scb) En791 (by kernel_rfl) Hv792 rfl rfl (by kernel_rfl) ?_
          intro ac795 En796
          exact any_to hG (by kernel_rfl) (nd648 _ _ ao149 cp150 (En796.sub (by kernel_rfl)) (Hv792.pick [0, 1, 2, 3, 4, 5, 6, 7, 8, 9] (by kernel_rfl) (by decide)))
      have nd797 : ∀ (ac : Act) (wo : World) (bk141 : Nat), Env ac 77 [(1, .slice a_m (List.length m) c_m), (2, .pointer (some ⟨bk1, 0, none⟩)), (4, .bool false), (6, .pointer (some ⟨bq18, 0, none⟩)), (7, .bool true), (29, .slice (some ⟨bk141, 0, none⟩) 0 0), (31, .slice a_sa (List.length sa) c_sa), (35, .slice a_sba (List.length sba) c_sba), (38, .pointer (some ⟨bk1, 6, none⟩))] → Ev w [] wo [.box bq18 [.slice auq18 (List.length (List.drop (List.length scb) (sa ++ sba))) cuq18, .bool sbc, .slice adq18 (List.length (List.drop (List.length sbb) sca)) cdq18, .bool scc, .slice ahq18 (List.length sa) chq18, .slice apq18 (List.length sba) cpq18, .slice aqq18 (List.length sbb) cqq18, .bool sbc, .bool sbd, .slice arq18 (List.length sca) crq18, .slice avq18 (List.length scb) cvq18, .bool scc, .bool scd] 66, .vec ahq18 chq18 1 (bys sa) 5, .vec apq18 cpq18 1 (bys sba) 5, .vec aqq18 cqq18 1 (bys sbb) 5, .vec arq18 crq18 1 (bys sca) 5, .vec avq18 cvq18 1 (bys scb) 5, .vec auq18 cuq18 1 (bys (List.drop (List.length scb) (sa ++ sba))) 5, .vec adq18 cdq18 1 (bys (List.drop (List.length sbb) sca)) 5, .box bk1 [.slice a_sa (List.length sa) c_sa, .slice a_sba (List.length sba) c_sba, .slice a_sbb (List.length sbb) c_sbb, .bool sbc, .bool sbd, .slice a_sca (List.length sca) c_sca, .slice a_scb (List.length scb) c_scb, .bool scc, .bool scd] 26, .vec (some ⟨bk141, 0, none⟩) 0 1 (bys []) 5] → G 6 #[true, true, true, false, true, true, true, false, true, true, false, false, false, false] ac wo := by
        intro ac798 wo799 bk141 En800 Hv801
        refine any_from hG ?_
        refine any_two 3 10 (by kernel_rfl) ?_ ?_
        · rintro _ rfl
          have hsm802 := i_sa.small
          refine op_append (d := some 32) (t := 22) (tx := 22) (ty := 22) (k := 9) (p := 0) (m := List.length sa) (x := .slice a_sa (List.length sa) c_sa) (bytes := 1) En800 (by kernel_rfl) Hv801 rfl rfl (Reads.src (size := 1) (tx := 22) (e' := 5) (by kernel_rfl) (i_sa.ev Hv801).reads (bys_len _) i_sa.nz (bys_one _)) (by kernel_rfl) (z := .int .u8 0) (by kernel_rfl) rfl (by decide) (by omega) (by unfold maxLen; omega) ?_
          intro ac807 wo808 ao803 cp804 En809 Hv810 _ _
          rw [bys_nil_append] at Hv810
          have ehz805 : 0 + (List.length sa) = List.length sa := (by first | (simp; done) | (simp; omega) | omega)
          rw [ehz805] at En809
          exact any_to hG (by kernel_rfl) (nd632 _ _ ao803 cp804 (En809.sub (by kernel_rfl)) (Hv810.pick [0, 1, 2, 3, 4, 5, 6, 7, 8, 9] (by kernel_rfl) (by decide)))
        · rintro _ rfl
          refine op_loadbox (d := some 39) (t := 22) (b := bk1) (off := 6) (k := 8) (v := .slice a_scb (List.length scb) c_scb) En800 (by kernel_rfl) Hv801 rfl rfl (by kernel_rfl) ?_
          intro ac811 En812
          exact any_to hG (by kernel_rfl) (nd673 _ _ bk141 (En812.sub (by kernel_rfl)) (Hv801.pick [0, 1, 2, 3, 4, 5, 6, 7, 8, 9] (by kernel_rfl) (by decide)))
      have nd813 : ∀ (ac : Act) (wo : World) (bk141 : Nat), Env ac 77 [(1, .slice a_m (List.length m) c_m), (2, .pointer (some ⟨bk1, 0, none⟩)), (4, .bool false), (6, .pointer (some ⟨bq18, 0, none⟩)), (7, .bool true), (29, .slice (some ⟨bk141, 0, none⟩) 0 0), (31, .slice a_sa (List.length sa) c_sa), (34, .pointer (some ⟨bk1, 1, none⟩)), (39, .slice a_scb (List.length scb) c_scb)] → Ev w [] wo [.box bq18 [.slice auq18 (List.length (List.drop (List.length scb) (sa ++ sba))) cuq18, .bool sbc, .slice adq18 (List.length (List.drop (List.length sbb) sca)) cdq18, .bool scc, .slice ahq18 (List.length sa) chq18, .slice apq18 (List.length sba) cpq18, .slice aqq18 (List.length sbb) cqq18, .bool sbc, .bool sbd, .slice arq18 (List.length sca) crq18, .slice avq18 (List.length scb) cvq18, .bool scc, .bool scd] 66, .vec ahq18 chq18 1 (bys sa) 5, .vec apq18 cpq18 1 (bys sba) 5, .vec aqq18 cqq18 1 (bys sbb) 5, .vec arq18 crq18 1 (bys sca) 5, .vec avq18 cvq18 1 (bys scb) 5, .vec auq18 cuq18 1 (bys (List.drop (List.length scb) (sa ++ sba))) 5, .vec adq18 cdq18 1 (bys (List.drop (List.length sbb) sca)) 5, .box bk1 [.slice a_sa (List.length sa) c_sa, .slice a_sba (List.length sba) c_sba, .slice a_sbb (List.length sbb) c_sbb, .bool sbc, .bool sbd, .slice a_sca (List.length sca) c_sca, .slice a_scb (List.length scb) c_scb, .bool scc, .bool scd] 26, .vec (some ⟨bk141, 0, none⟩) 0 1 (bys []) 5] → G 6 #[true, true, true, false, true, true, false, false, true, true, true, false, false, false] ac wo := by
        intro ac814 wo815 bk141 En816 Hv817
        refine any_from hG ?_
        refine any_pureR (d := some 40) En816 (v := .int .i64 ((List.length scb : Nat) : Int)) 11 (by kernel_rfl) (by kernel_rfl) rfl ?_
        intro ac818 En819
        refine any_two 3 6 (by kernel_rfl) ?_ ?_
        · rintro _ rfl
          have hsm820 := i_sa.small
          refine op_append (d := some 32) (t := 22) (tx := 22) (ty := 22) (k := 9) (p := 0) (m := List.length sa) (x := .slice a_sa (List.length sa) c_sa) (bytes := 1) En819 (by kernel_rfl) Hv817 rfl rfl (Reads.src (size := 1) (tx := 22) (e' := 5) (by kernel_rfl) (i_sa.ev Hv817).reads (bys_len _) i_sa.nz (bys_one _)) (by kernel_rfl) (z := .int .u8 0) (by kernel_rfl) rfl (by decide) (by omega) (by unfold maxLen; omega) ?_
          intro ac825 wo826 ao821 cp822 En827 Hv828 _ _
          rw [bys_nil_append] at Hv828
          have ehz823 : 0 + (List.length sa) = List.length sa := (by first | (simp; done) | (simp; omega) | omega)
          rw [ehz823] at En827
          exact any_to hG (by kernel_rfl) (nd579 _ _ ao821 cp822 (En827.sub (by kernel_rfl)) (Hv828.pick [0, 1, 2, 3, 4, 5, 6, 7, 8, 9] (by kernel_rfl) (by decide)))
        · rintro _ rfl
          refine op_loadbox (d := some 35) (t := 22) (b := bk1) (off := 1) (k := 8) (v := .slice a_sba (List.length sba) c_sba) En819 (by kernel_rfl) Hv817 rfl rfl (by kernel_rfl) ?_
          intro ac829 En830
          exact any_to hG (by kernel_rfl) (nd602 _ _ bk141 (En830.sub (by kernel_rfl)) (Hv817.pick [0, 1, 2, 3, 4, 5, 6, 7, 8, 9] (by kernel_rfl) (by decide)))
      have nd831 : ∀ (ac : Act) (wo : World) (bk141 : Nat), Env ac 77 [(1, .slice a_m (List.length m) c_m), (2, .pointer (some ⟨bk1, 0, none⟩)), (4, .bool false), (6, .pointer (some ⟨bq18, 0, none⟩)), (7, .bool true), (29, .slice (some ⟨bk141, 0, none⟩) 0 0), (30, .pointer (some ⟨bk1, 0, none⟩)), (35, .slice a_sba (List.length sba) c_sba), (39, .slice a_scb (List.length scb) c_scb)] → Ev w [] wo [.box bq18 [.slice auq18 (List.length (List.drop (List.length scb) (sa ++ sba))) cuq18, .bool sbc, .slice adq18 (List.length (List.drop (List.length sbb) sca)) cdq18, .bool scc, .slice ahq18 (List.length sa) chq18, .slice apq18 (List.length sba) cpq18, .slice aqq18 (List.length sbb) cqq18, .bool sbc, .bool sbd, .slice arq18 (List.length sca) crq18, .slice avq18 (List.length scb) cvq18, .bool scc, .bool scd] 66, .vec ahq18 chq18 1 (bys sa) 5, .vec apq18 cpq18 1 (bys sba) 5, .vec aqq18 cqq18 1 (bys sbb) 5, .vec arq18 crq18 1 (bys sca) 5, .vec avq18 cvq18 1 (bys scb) 5, .vec auq18 cuq18 1 (bys (List.drop (List.length scb) (sa ++ sba))) 5, .vec adq18 cdq18 1 (bys (List.drop (List.length sbb) sca)) 5, .box bk1 [.slice a_sa (List.length sa) c_sa, .slice a_sba (List.length sba) c_sba, .slice a_sbb (List.length sbb) c_sbb, .bool sbc, .bool sbd, .slice a_sca (List.length sca) c_sca, .slice a_scb (List.length scb) c_scb, .bool scc, .bool scd] 26, .vec (some ⟨bk141, 0, none⟩) 0 1 (bys []) 5] → G 6 #[true, true, false, false, true, true, true, false, true, true, true, false, false, false] ac wo := by
        intro ac832 wo833 bk141 En834 Hv835
        refine any_from hG ?_
        refine any_pureR (d := some 40) En834 (v := .int .i64 ((List.length scb : Nat) : Int)) 11 (by kernel_rfl) (by kernel_rfl) rfl ?_
        intro ac836 En837
        refine any_at 2 (by kernel_rfl) rfl ?_
        refine op_loadbox (d := some 31) (t := 22) (b := bk1) (off := 0) (k := 8) (v := .slice a_sa (List.length sa) c_sa) En837 (by kernel_rfl) Hv835 rfl rfl (by kernel_rfl) ?_
        intro ac838 En839
        refine any_at 3 (by kernel_rfl) rfl ?_
        have hsm840 := i_sa.small
        refine op_append (d := some 32) (t := 22) (tx := 22) (ty := 22) (k := 9) (p := 0) (m := List.length sa) (x := .slice a_sa (List.length sa) c_sa) (bytes := 1) En839 (by kernel_rfl) Hv835 rfl rfl (Reads.src (size := 1) (tx := 22) (e' := 5) (by kernel_rfl) (i_sa.ev Hv835).reads (bys_len _) i_sa.nz (bys_one _)) (by kernel_rfl) (z := .int .u8 0) (by kernel_rfl) rfl (by decide) (by omega) (by unfold maxLen; omega) ?_
        intro ac845 wo846 ao841 cp842 En847 Hv848 _ _
        rw [bys_nil_append] at Hv848
        have ehz843 : 0 + (List.length sa) = List.length sa := (by first | (simp; done) | (simp; omega) | omega)
        rw [ehz843] at En847
        refine any_at 7 (by kernel_rfl) rfl ?_
        have hsm849 := i_sba.small
        refine op_append (d := some 36) (t := 22) (tx := 22) (ty := 22) (k := 9) (p := List.length sa) (m := List.length sba) (x := .slice a_sba (List.length sba) c_sba) (bytes := 1) En847 (by kernel_rfl) Hv848 rfl (bys_len _) (Reads.src (size := 1) (tx := 22) (e' := 5) (by kernel_rfl) (i_sba.ev Hv848).reads (bys_len _) i_sba.nz (bys_one _)) (by kernel_rfl) (z := .int .u8 0) (by kernel_rfl) rfl (by decide) (by omega) (by unfold maxLen; omega) ?_
        intro ac854 wo855 ao850 cp851 En856 Hv857 _ _
        rw [← bys_append] at Hv857
        have ehz852 : (List.length sa) + (List.length sba) = List.length (sa ++ sba) := (by first | (simp; done) | (simp; omega) | omega)
        rw [ehz852] at En856
        refine any_at 12 (by kernel_rfl) rfl ?_
        have hcap858 := bys_vcap Hv857.heap (k := 9) rfl
        refine op_slice (d := some 41) (t := 22) (e := 5) (sz := 1) (len := List.length (sa ++ sba)) (cap := cp851) (lo := List.length scb) (hi := List.length (sa ++ sba)) (ao := ao850) (lov := (some (.int .i64 ((List.length scb : Nat) : Int)))) (hiv := none) En856 (by kernel_rfl) (by kernel_rfl) (by kernel_rfl) (by omega) (by omega) (.inr ⟨.i64, rfl⟩) (.inl ⟨rfl, rfl⟩) ?_
        intro ac859 En860
        have Hv861 : Ev w [] wo855 [.box bq18 [.slice auq18 (List.length (List.drop (List.length scb) (sa ++ sba))) cuq18, .bool sbc, .slice adq18 (List.length (List.drop (List.length sbb) sca)) cdq18, .bool scc, .slice ahq18 (List.length sa) chq18, .slice apq18 (List.length sba) cpq18, .slice aqq18 (List.length sbb) cqq18, .bool sbc, .bool sbd, .slice arq18 (List.length sca) crq18, .slice avq18 (List.length scb) cvq18, .bool scc, .bool scd] 66, .vec ahq18 chq18 1 (bys sa) 5, .vec apq18 cpq18 1 (bys sba) 5, .vec aqq18 cqq18 1 (bys sbb) 5, .vec arq18 crq18 1 (bys sca) 5, .vec avq18 cvq18 1 (bys scb) 5, .vec auq18 cuq18 1 (bys (List.drop (List.length scb) (sa ++ sba))) 5, .vec adq18 cdq18 1 (bys (List.drop (List.length sbb) sca)) 5, .box bk1 [.slice a_sa (List.length sa) c_sa, .slice a_sba (List.length sba) c_sba, .slice a_sbb (List.length sbb) c_sbb, .bool sbc, .bool sbd, .slice a_sca (List.length sca) c_sca, .slice a_scb (List.length scb) c_scb, .bool scc, .bool scd] 26, .vec (cutAt ao850 cp851 (List.length scb) 1) (cp851 - (List.length scb)) 1 (bys (List.drop (List.length scb) (sa ++ sba))) 5] := by
          have h := Ev.cut (k := 9) (n := List.length (sa ++ sba)) (sz := 1) Hv857 rfl (bys_len _) (by omega) (List.length scb) (List.length (sa ++ sba)) (by omega) (by omega)
          rw [bys_cutw (l := sa ++ sba) (lo := List.length scb) (n := List.length (sa ++ sba)) (by simp)] at h
          exact h
        have el862 : (List.length (sa ++ sba)) - (List.length scb) = List.length (List.drop (List.length scb) (sa ++ sba)) := by first | (simp; done) | (simp; omega)
        rw [el862] at En860
        refine any_pureR (d := some 8) En860 (v := .slice (cutAt ao850 cp851 (List.length scb) 1) (List.length (List.drop (List.length scb) (sa ++ sba))) (cp851 - (List.length scb))) 13 (by kernel_rfl) (by kernel_rfl) rfl ?_
        intro ac863 En864
        exact any_end (by kernel_rfl) ⟨ao850, cp851, En864.sub (by kernel_rfl), Hv861.pick [0, 1, 2, 3, 4, 5, 6, 7, 8, 9] (by kernel_rfl) (by decide)⟩
      have nd865 : ∀ (ac : Act) (wo : World), Env ac 77 [(1, .slice a_m (List.length m) c_m), (2, .pointer (some ⟨bk1, 0, none⟩)), (4, .bool false), (6, .pointer (some ⟨bq18, 0, none⟩)), (7, .bool true), (31, .slice a_sa (List.length sa) c_sa), (35, .slice a_sba (List.length sba) c_sba), (39, .slice a_scb (List.length scb) c_scb)] → Ev w [] wo [.box bq18 [.slice auq18 (List.length (List.drop (List.length scb) (sa ++ sba))) cuq18, .bool sbc, .slice adq18 (List.length (List.drop (List.length sbb) sca)) cdq18, .bool scc, .slice ahq18 (List.length sa) chq18, .slice apq18 (List.length sba) cpq18, .slice aqq18 (List.length sbb) cqq18, .bool sbc, .bool sbd, .slice arq18 (List.length sca) crq18, .slice avq18 (List.length scb) cvq18, .bool scc, .bool scd] 66, .vec ahq18 chq18 1 (bys sa) 5, .vec apq18 cpq18 1 (bys sba) 5, .vec aqq18 cqq18 1 (bys sbb) 5, .vec arq18 crq18 1 (bys sca) 5, .vec avq18 cvq18 1 (bys scb) 5, .vec auq18 cuq18 1 (bys (List.drop (List.length scb) (sa ++ sba))) 5, .vec adq18 cdq18 1 (bys (List.drop (List.length sbb) sca)) 5, .box bk1 [.slice a_sa (List.length sa) c_sa, .slice a_sba (List.length sba) c_sba, .slice a_sbb (List.length sbb) c_sbb, .bool sbc, .bool sbd, .slice a_sca (List.length sca) c_sca, .slice a_scb (List.length scb) c_scb, .bool scc, .bool scd] 26] → G 6 #[false, true, true, false, true, true, true, false, true, true, true, false, false, false] ac wo := by
        intro ac866 wo867 En868 Hv869
        refine any_from hG ?_
        refine any_pureR (d := some 40) En868 (v := .int .i64 ((List.length scb : Nat) : Int)) 11 (by kernel_rfl) (by kernel_rfl) rfl ?_
        intro ac870 En871
        refine any_at 0 (by kernel_rfl) rfl ?_
        refine op_lit (d := some 29) (t := 22) (T := 5) (m := 0) (parts := #[]) (xs := bys []) (sz := 1) En871 (by kernel_rfl) (by kernel_rfl) rfl (by decide) Hv869 ?_
        intro ac873 wo874 bk872 En875 Hv876
        refine any_at 3 (by kernel_rfl) rfl ?_
        have hsm877 := i_sa.small
        refine op_append (d := some 32) (t := 22) (tx := 22) (ty := 22) (k := 9) (p := 0) (m := List.length sa) (x := .slice a_sa (List.length sa) c_sa) (bytes := 1) En875 (by kernel_rfl) Hv876 rfl rfl (Reads.src (size := 1) (tx := 22) (e' := 5) (by kernel_rfl) (i_sa.ev Hv876).reads (bys_len _) i_sa.nz (bys_one _)) (by kernel_rfl) (z := .int .u8 0) (by kernel_rfl) rfl (by decide) (by omega) (by unfold maxLen; omega) ?_
        intro ac882 wo883 ao878 cp879 En884 Hv885 _ _
        rw [bys_nil_append] at Hv885
        have ehz880 : 0 + (List.length sa) = List.length sa := (by first | (simp; done) | (simp; omega) | omega)
        rw [ehz880] at En884
        refine any_at 7 (by kernel_rfl) rfl ?_
        have hsm886 := i_sba.small
        refine op_append (d := some 36) (t := 22) (tx := 22) (ty := 22) (k := 9) (p := List.length sa) (m := List.length sba) (x := .slice a_sba (List.length sba) c_sba) (bytes := 1) En884 (by kernel_rfl) Hv885 rfl (bys_len _) (Reads.src (size := 1) (tx := 22) (e' := 5) (by kernel_rfl) (i_sba.ev Hv885).reads (bys_len _) i_sba.nz (bys_one _)) (by kernel_rfl) (z := .int .u8 0) (by kernel_rfl) rfl (by decide) (by omega) (by unfold maxLen; omega) ?_
        intro ac891 wo892 ao887 cp888 En893 Hv894 _ _
        rw [← bys_append] at Hv894
        have ehz889 : (List.length sa) + (List.length sba) = List.length (sa ++ sba) := (by first | (simp; done) | (simp; omega) | omega)
        rw [ehz889] at En893
        refine any_at 12 (by kernel_rfl) rfl ?_
        have hcap895 := bys_vcap Hv894.heap (k := 9) rfl
        refine op_slice (d := some 41) (t := 22) (e := 5) (sz := 1) (len := List.length (sa ++ sba)) (cap := cp888) (lo := List.length scb) (hi := List.length (sa ++ sba)) (ao := ao887) (lov := (some (.int .i64 ((List.length scb : Nat) : Int)))) (hiv := none) En893 (by kernel_rfl) (by kernel_rfl) (by kernel_rfl) (by omega) (by omega) (.inr ⟨.i64, rfl⟩) (.inl ⟨rfl, rfl⟩) ?_
        intro ac896 En897
        have Hv898 : Ev w [] wo892 [.box bq18 [.slice auq18 (List.length (List.drop (List.length scb) (sa ++ sba))) cuq18, .bool sbc, .slice adq18 (List.length (List.drop (List.length sbb) sca)) cdq18, .bool scc, .slice ahq18 (List.length sa) chq18, .slice apq18 (List.length sba) cpq18, .slice aqq18 (List.length sbb) cqq18, .bool sbc, .bool sbd, .slice arq18 (List.length sca) crq18, .slice avq18 (List.length scb) cvq18, .bool scc, .bool scd] 66, .vec ahq18 chq18 1 (bys sa) 5, .vec apq18 cpq18 1 (bys sba) 5, .vec aqq18 cqq18 1 (bys sbb) 5, .vec arq18 crq18 1 (bys sca) 5, .vec avq18 cvq18 1 (bys scb) 5, .vec auq18 cuq18 1 (bys (List.drop (List.length scb) (sa ++ sba))) 5, .vec adq18 cdq18 1 (bys (List.drop (List.length sbb) sca)) 5, .box bk1 [.slice a_sa (List.length sa) c_sa, .slice a_sba (List.length sba) c_sba, .slice a_sbb (List.length sbb) c_sbb, .bool sbc, .bool sbd, .slice a_sca (List.length sca) c_sca, .slice a_scb (List.length scb) c_scb, .bool scc, .bool scd] 26, .vec (cutAt ao887 cp888 (List.length scb) 1) (cp888 - (List.length scb)) 1 (bys (List.drop (List.length scb) (sa ++ sba))) 5] := by
          have h := Ev.cut (k := 9) (n := List.length (sa ++ sba)) (sz := 1) Hv894 rfl (bys_len _) (by omega) (List.length scb) (List.length (sa ++ sba)) (by omega) (by omega)
          rw [bys_cutw (l := sa ++ sba) (lo := List.length scb) (n := List.length (sa ++ sba)) (by simp)] at h
          exact h
        have el899 : (List.length (sa ++ sba)) - (List.length scb) = List.length (List.drop (List.length scb) (sa ++ sba)) := by first | (simp; done) | (simp; omega)
        rw [el899] at En897
        refine any_pureR (d := some 8) En897 (v := .slice (cutAt ao887 cp888 (List.length scb) 1) (List.length (List.drop (List.length scb) (sa ++ sba))) (cp888 - (List.length scb))) 13 (by kernel_rfl) (by kernel_rfl) rfl ?_
        intro ac900 En901
        exact any_end (by kernel_rfl) ⟨ao887, cp888, En901.sub (by kernel_rfl), Hv898.pick [0, 1, 2, 3, 4, 5, 6, 7, 8, 9] (by kernel_rfl) (by decide)⟩
      have nd902 : ∀ (ac : Act) (wo : World) (bk513 : Nat), Env ac 77 [(1, .slice a_m (List.length m) c_m), (2, .pointer (some ⟨bk1, 0, none⟩)), (4, .bool false), (6, .pointer (some ⟨bq18, 0, none⟩)), (7, .bool true), (29, .slice (some ⟨bk513, 0, none⟩) 0 0), (30, .pointer (some ⟨bk1, 0, none⟩)), (34, .pointer (some ⟨bk1, 1, none⟩)), (40, .int .i64 ((List.length scb : Nat) : Int))] → Ev w [] wo [.box bq18 [.slice auq18 (List.length (List.drop (List.length scb) (sa ++ sba))) cuq18, .bool sbc, .slice adq18 (List.length (List.drop (List.length sbb) sca)) cdq18, .bool scc, .slice ahq18 (List.length sa) chq18, .slice apq18 (List.length sba) cpq18, .slice aqq18 (List.length sbb) cqq18, .bool sbc, .bool sbd, .slice arq18 (List.length sca) crq18, .slice avq18 (List.length scb) cvq18, .bool scc, .bool scd] 66, .vec ahq18 chq18 1 (bys sa) 5, .vec apq18 cpq18 1 (bys sba) 5, .vec aqq18 cqq18 1 (bys sbb) 5, .vec arq18 crq18 1 (bys sca) 5, .vec avq18 cvq18 1 (bys scb) 5, .vec auq18 cuq18 1 (bys (List.drop (List.length scb) (sa ++ sba))) 5, .vec adq18 cdq18 1 (bys (List.drop (List.length sbb) sca)) 5, .box bk1 [.slice a_sa (List.length sa) c_sa, .slice a_sba (List.length sba) c_sba, .slice a_sbb (List.length sbb) c_sbb, .bool sbc, .bool sbd, .slice a_sca (List.length sca) c_sca, .slice a_scb (List.length scb) c_scb, .bool scc, .bool scd] 26, .vec (some ⟨bk513, 0, none⟩) 0 1 (bys []) 5] → G 6 #[true, true, false, false, true, true, false, false, true, true, true, true, false, false] ac wo := by
        intro ac903 wo904 bk513 En905 Hv906
        refine any_from hG ?_
        refine any_two 2 6 (by kernel_rfl) ?_ ?_
        · rintro _ rfl
          refine op_loadbox (d := some 31) (t := 22) (b := bk1) (off := 0) (k := 8) (v := .slice a_sa (List.length sa) c_sa) En905 (by kernel_rfl) Hv906 rfl rfl (by kernel_rfl) ?_
          intro ac907 En908
          exact any_to hG (by kernel_rfl) (nd705 _ _ bk513 (En908.sub (by kernel_rfl)) (Hv906.pick [0, 1, 2, 3, 4, 5, 6, 7, 8, 9] (by kernel_rfl) (by decide)))
        · rintro _ rfl
          refine op_loadbox (d := some 35) (t := 22) (b := bk1) (off := 1) (k := 8) (v := .slice a_sba (List.length sba) c_sba) En905 (by kernel_rfl) Hv906 rfl rfl (by kernel_rfl) ?_
          intro ac909 En910
          exact any_to hG (by kernel_rfl) (nd721 _ _ bk513 (En910.sub (by kernel_rfl)) (Hv906.pick [0, 1, 2, 3, 4, 5, 6, 7, 8, 9] (by kernel_rfl) (by decide)))
      have nd911 : ∀ (ac : Act) (wo : World), Env ac 77 [(1, .slice a_m (List.length m) c_m), (2, .pointer (some ⟨bk1, 0, none⟩)), (4, .bool false), (6, .pointer (some ⟨bq18, 0, none⟩)), (7, .bool true), (31, .slice a_sa (List.length sa) c_sa), (34, .pointer (some ⟨bk1, 1, none⟩)), (40, .int .i64 ((List.length scb : Nat) : Int))] → Ev w [] wo [.box bq18 [.slice auq18 (List.length (List.drop (List.length scb) (sa ++ sba))) cuq18, .bool sbc, .slice adq18 (List.length (List.drop (List.length sbb) sca)) cdq18, .bool scc, .slice ahq18 (List.length sa) chq18, .slice apq18 (List.length sba) cpq18, .slice aqq18 (List.length sbb) cqq18, .bool sbc, .bool sbd, .slice arq18 (List.length sca) crq18, .slice avq18 (List.length scb) cvq18, .bool scc, .bool scd] 66, .vec ahq18 chq18 1 (bys sa) 5, .vec apq18 cpq18 1 (bys sba) 5, .vec aqq18 cqq18 1 (bys sbb) 5, .vec arq18 crq18 1 (bys sca) 5, .vec avq18 cvq18 1 (bys scb) 5, .vec auq18 cuq18 1 (bys (List.drop (List.length scb) (sa ++ sba))) 5, .vec adq18 cdq18 1 (bys (List.drop (List.length sbb) sca)) 5, .box bk1 [.slice a_sa (List.length sa) c_sa, .slice a_sba (List.length sba) c_sba, .slice a_sbb (List.length sbb) c_sbb, .bool sbc, .bool sbd, .slice a_sca (List.length sca) c_sca, .slice a_scb (List.length scb) c_scb, .bool scc, .bool scd] 26] → G 6 #[false, true, true, false, true, true, false, false, true, true, true, true, false, false] ac wo := by
        intro ac912 wo913 En914 Hv915
        refine any_from hG ?_
        refine any_two 0 6 (by kernel_rfl) ?_ ?_
        · rintro _ rfl
          refine op_lit (d := some 29) (t := 22) (T := 5) (m := 0) (parts := #[]) (xs := bys []) (sz := 1) En914 (by kernel_rfl) (by kernel_rfl) rfl (by decide) Hv915 ?_
          intro ac917 wo918 bk916 En919 Hv920
          exact any_to hG (by kernel_rfl) (nd705 _ _ bk916 (En919.sub (by kernel_rfl)) (Hv920.pick [0, 1, 2, 3, 4, 5, 6, 7, 8, 9] (by kernel_rfl) (by decide)))
        · rintro _ rfl
          refine op_loadbox (d := some 35) (t := 22) (b := bk1) (off := 1) (k := 8) (v := .slice a_sba (List.length sba) c_sba) En914 (by kernel_rfl) Hv915 rfl rfl (by kernel_rfl) ?_
          intro ac921 En922
          exact any_to hG (by kernel_rfl) (nd753 _ _ (En922.sub (by kernel_rfl)) (Hv915.pick [0, 1, 2, 3, 4, 5, 6, 7, 8] (by kernel_rfl) (by decide)))
      have nd923 : ∀ (ac : Act) (wo : World), Env ac 77 [(1, .slice a_m (List.length m) c_m), (2, .pointer (some ⟨bk1, 0, none⟩)), (4, .bool false), (6, .pointer (some ⟨bq18, 0, none⟩)), (7, .bool true), (30, .pointer (some ⟨bk1, 0, none⟩)), (35, .slice a_sba (List.length sba) c_sba), (40, .int .i64 ((List.length scb : Nat) : Int))] → Ev w [] wo [.box bq18 [.slice auq18 (List.length (List.drop (List.length scb) (sa ++ sba))) cuq18, .bool sbc, .slice adq18 (List.length (List.drop (List.length sbb) sca)) cdq18, .bool scc, .slice ahq18 (List.length sa) chq18, .slice apq18 (List.length sba) cpq18, .slice aqq18 (List.length sbb) cqq18, .bool sbc, .bool sbd, .slice arq18 (List.length sca) crq18, .slice avq18 (List.length scb) cvq18, .bool scc, .bool scd] 66, .vec ahq18 chq18 1 (bys sa) 5, .vec apq18 cpq18 1 (bys sba) 5, .vec aqq18 cqq18 1 (bys sbb) 5, .vec arq18 crq18 1 (bys sca) 5, .vec avq18 cvq18 1 (bys scb) 5, .vec auq18 cuq18 1 (bys (List.drop (List.length scb) (sa ++ sba))) 5, .vec adq18 cdq18 1 (bys (List.drop (List.length sbb) sca)) 5, .box bk1 [.slice a_sa (List.length sa) c_sa, .slice a_sba (List.length sba) c_sba, .slice a_sbb (List.length sbb) c_sbb, .bool sbc, .bool sbd, .slice a_sca (List.length sca) c_sca, .slice a_scb (List.length scb) c_scb, .bool scc, .bool scd] 26] → G 6 #[false, true, false, false, true, true, true, false, true, true, true, true, false, false] ac wo := by
        intro ac924 wo925 En926 Hv927
        refine any_from hG ?_
        refine any_two 0 2 (by kernel_rfl) ?_ ?_
        · rintro _ rfl
          refine op_lit (d := some 29) (t := 22) (T := 5) (m := 0) (parts := #[]) (xs := bys []) (sz := 1) En926 (by kernel_rfl) (by kernel_rfl) rfl (by decide) Hv927 ?_
          intro ac929 wo930 bk928 En931 Hv932
          exact any_to hG (by kernel_rfl) (nd721 _ _ bk928 (En931.sub (by kernel_rfl)) (Hv932.pick [0, 1, 2, 3, 4, 5, 6, 7, 8, 9] (by kernel_rfl) (by decide)))
        · rintro _ rfl
          refine op_loadbox (d := some 31) (t := 22) (b := bk1) (off := 0) (k := 8) (v := .slice a_sa (List.length sa) c_sa) En926 (by kernel_rfl) Hv927 rfl rfl (by kernel_rfl) ?_
          intro ac933 En934
          exact any_to hG (by kernel_rfl) (nd753 _ _ (En934.sub (by kernel_rfl)) (Hv927.pick [0, 1, 2, 3, 4, 5, 6, 7, 8] (by kernel_rfl) (by decide)))
      have nd935 : ∀ (ac : Act) (wo : World) (bk141 : Nat), Env ac 77 [(1, .slice a_m (List.length m) c_m), (2, .pointer (some ⟨bk1, 0, none⟩)), (4, .bool false), (6, .pointer (some ⟨bq18, 0, none⟩)), (7, .bool true), (29, .slice (some ⟨bk141, 0, none⟩) 0 0), (31, .slice a_sa (List.length sa) c_sa), (34, .pointer (some ⟨bk1, 1, none⟩)), (38, .pointer (some ⟨bk1, 6, none⟩))] → Ev w [] wo [.box bq18 [.slice auq18 (List.length (List.drop (List.length scb) (sa ++ sba))) cuq18, .bool sbc, .slice adq18 (List.length (List.drop (List.length sbb) sca)) cdq18, .bool scc, .slice ahq18 (List.length sa) chq18, .slice apq18 (List.length sba) cpq18, .slice aqq18 (List.length sbb) cqq18, .bool sbc, .bool sbd, .slice arq18 (List.length sca) crq18, .slice avq18 (List.length scb) cvq18, .bool scc, .bool scd] 66, .vec ahq18 chq18 1 (bys sa) 5, .vec apq18 cpq18 1 (bys sba) 5, .vec aqq18 cqq18 1 (bys sbb) 5, .vec arq18 crq18 1 (bys sca) 5, .vec avq18 cvq18 1 (bys scb) 5, .vec auq18 cuq18 1 (bys (List.drop (List.length scb) (sa ++ sba))) 5, .vec adq18 cdq18 1 (bys (List.drop (List.length sbb) sca)) 5, .box bk1 [.slice a_sa (List.length sa) c_sa, .slice a_sba (List.length sba) c_sba, .slice a_sbb (List.length sbb) c_sbb, .bool sbc, .bool sbd, .slice a_sca (List.length sca) c_sca, .slice a_scb (List.length scb) c_scb, .bool scc, .bool scd] 26, .vec (some ⟨bk141, 0, none⟩) 0 1 (bys []) 5] → G 7 #[true, true, true, false, true, true, false, false, true, true, false, false, false, false] ac wo := by
        intro ac936 wo937 bk141 En938 Hv939
        refine any_from hG ?_
        refine any_ways [3, 6, 10] (by kernel_rfl) rfl ?_
        refine ⟨?_, ?_, ?_, trivial⟩
        · rintro _ rfl
          have hsm940 := i_sa.small
          refine op_append (d := some 32) (t := 22) (tx := 22) (ty := 22) (k := 9) (p := 0) (m := List.length sa) (x := .slice a_sa (List.length sa) c_sa) (bytes := 1) En938 (by kernel_rfl) Hv939 rfl rfl (Reads.src (size := 1) (tx := 22) (e' := 5) (by kernel_rfl) (i_sa.ev Hv939).reads (bys_len _) i_sa.nz (bys_one _)) (by kernel_rfl) (z := .int .u8 0) (by kernel_rfl) rfl (by decide) (by omega) (by unfold maxLen; omega) ?_
          intro ac945 wo946 ao941 cp942 En947 Hv948 _ _
          rw [bys_nil_append] at Hv948
          have ehz943 : 0 + (List.length sa) = List.length sa := (by first | (simp; done) | (simp; omega) | omega)
          rw [ehz943] at En947
          exact any_to hG (by kernel_rfl) (nd788 _ _ ao941 cp942 (En947.sub (by kernel_rfl)) (Hv948.pick [0, 1, 2, 3, 4, 5, 6, 7, 8, 9] (by kernel_rfl) (by decide)))
        · rintro _ rfl
          refine op_loadbox (d := some 35) (t := 22) (b := bk1) (off := 1) (k := 8) (v := .slice a_sba (List.length sba) c_sba) En938 (by kernel_rfl) Hv939 rfl rfl (by kernel_rfl) ?_
          intro ac949 En950
          exact any_to hG (by kernel_rfl) (nd797 _ _ bk141 (En950.sub (by kernel_rfl)) (Hv939.pick [0, 1, 2, 3, 4, 5, 6, 7, 8, 9] (by kernel_rfl) (by decide)))
        · rintro _ rfl
          refine op_loadbox (d := some 39) (t := 22) (b := bk1) (off := 6) (k := 8) (v := .slice a_scb (List.length scb) c_scb) En938 (by kernel_rfl) Hv939 rfl rfl (by kernel_rfl) ?_
          intro ac951 En952
          exact any_to hG (by kernel_rfl) (nd813 _ _ bk141 (En952.sub (by kernel_rfl)) (Hv939.pick [0, 1, 2, 3, 4, 5, 6, 7, 8, 9] (by kernel_rfl) (by decide)))
      have nd953 : ∀ (ac : Act) (wo : World) (bk141 : Nat), Env ac 77 [(1, .slice a_m (List.length m) c_m), (2, .pointer (some ⟨bk1, 0, none⟩)), (4, .bool false), (6, .pointer (some ⟨bq18, 0, none⟩)), (7, .bool true), (29, .slice (some ⟨bk141, 0, none⟩) 0 0), (30, .pointer (some ⟨bk1, 0, none⟩)), (35, .slice a_sba (List.length sba) c_sba), (38, .pointer (some ⟨bk1, 6, none⟩))] → Ev w [] wo [.box bq18 [.slice auq18 (List.length (List.drop (List.length scb) (sa ++ sba))) cuq18, .bool sbc, .slice adq18 (List.length (List.drop (List.length sbb) sca)) cdq18, .bool scc, .slice ahq18 (List.length sa) chq18, .slice apq18 (List.length sba) cpq18, .slice aqq18 (List.length sbb) cqq18, .bool sbc, .bool sbd, .slice arq18 (List.length sca) crq18, .slice avq18 (List.length scb) cvq18, .bool scc, .bool scd] 66, .vec ahq18 chq18 1 (bys sa) 5, .vec apq18 cpq18 1 (bys sba) 5, .vec aqq18 cqq18 1 (bys sbb) 5, .vec arq18 crq18 1 (bys sca) 5, .vec avq18 cvq18 1 (bys scb) 5, .vec auq18 cuq18 1 (bys (List.drop (List.length scb) (sa ++ sba))) 5, .vec adq18 cdq18 1 (bys (List.drop (List.length sbb) sca)) 5, .box bk1 [.slice a_sa (List.length sa) c_sa, .slice a_sba (List.length sba) c_sba, .slice a_sbb (List.length sbb) c_sbb, .bool sbc, .bool sbd, .slice a_sca (List.length sca) c_sca, .slice a_scb (List.length scb) c_scb, .bool scc, .bool scd] 26, .vec (some ⟨bk141, 0, none⟩) 0 1 (bys []) 5] → G 7 #[true, true, false, false, true, true, true, false, true, true, false, false, false, false] ac wo := by
        intro ac954 wo955 bk141 En956 Hv957
        refine any_from hG ?_
        refine any_two 2 10 (by kernel_rfl) ?_ ?_
        · rintro _ rfl
          refine op_loadbox (d := some 31) (t := 22) (b := bk1) (off := 0) (k := 8) (v := .slice a_sa (List.length sa) c_sa) En956 (by kernel_rfl) Hv957 rfl rfl (by kernel_rfl) ?_
          intro ac958 En959
          exact any_to hG (by kernel_rfl) (nd797 _ _ bk141 (En959.sub (by kernel_rfl)) (Hv957.pick [0, 1, 2, 3, 4, 5, 6, 7, 8, 9] (by kernel_rfl) (by decide)))
        · rintro _ rfl
          refine op_loadbox (d := some 39) (t := 22) (b := bk1) (off := 6) (k := 8) (v := .slice a_scb (List.length scb) c_scb) En956 (by kernel_rfl) Hv957 rfl rfl (by kernel_rfl) ?_
          intro ac960 En961
          exact any_to hG (by kernel_rfl) (nd831 _ _ bk141 (En961.sub (by kernel_rfl)) (Hv957.pick [0, 1, 2, 3, 4, 5, 6, 7, 8, 9] (by kernel_rfl) (by decide)))
      have nd962 : ∀ (ac : Act) (wo : World) (bk141 : Nat), Env ac 77 [(1, .slice a_m (List.length m) c_m), (2, .pointer (some ⟨bk1, 0, none⟩)), (4, .bool false), (6, .pointer (some ⟨bq18, 0, none⟩)), (7, .bool true), (29, .slice (some ⟨bk141, 0, none⟩) 0 0), (30, .pointer (some ⟨bk1, 0, none⟩)), (34, .pointer (some ⟨bk1, 1, none⟩)), (39, .slice a_scb (List.length scb) c_scb)] → Ev w [] wo [.box bq18 [.slice auq18 (List.length (List.drop (List.length scb) (sa ++ sba))) cuq18, .bool sbc, .slice adq18 (List.length (List.drop (List.length sbb) sca)) cdq18, .bool scc, .slice ahq18 (List.length sa) chq18, .slice apq18 (List.length sba) cpq18, .slice aqq18 (List.length sbb) cqq18, .bool sbc, .bool sbd, .slice arq18 (List.length sca) crq18, .slice avq18 (List.length scb) cvq18, .bool scc, .bool scd] 66, .vec ahq18 chq18 1 (bys sa) 5, .vec apq18 cpq18 1 (bys sba) 5, .vec aqq18 cqq18 1 (bys sbb) 5, .vec arq18 crq18 1 (bys sca) 5, .vec avq18 cvq18 1 (bys scb) 5, .vec auq18 cuq18 1 (bys (List.drop (List.length scb) (sa ++ sba))) 5, .vec adq18 cdq18 1 (bys (List.drop (List.length sbb) sca)) 5, .box bk1 [.slice a_sa (List.length sa) c_sa, .slice a_sba (List.length sba) c_sba, .slice a_sbb (List.length sbb) c_sbb, .bool sbc, .bool sbd, .slice a_sca (List.length sca) c_sca, .slice a_scb (List.length scb) c_scb, .bool scc, .bool scd] 26, .vec (some ⟨bk141, 0, none⟩) 0 1 (bys []) 5] → G 7 #[true, true, false, false, true, true, false, false, true, true, true, false, false, false] ac wo := by
        intro ac963 wo964 bk141 En965 Hv966
        refine any_from hG ?_
        refine any_pureR (d := some 40) En965 (v := .int .i64 ((List.length scb : Nat) : Int)) 11 (by kernel_rfl) (by kernel_rfl) rfl ?_
        intro ac967 En968
        refine any_two 2 6 (by kernel_rfl) ?_ ?_
        · rintro _ rfl
          refine op_loadbox (d := some 31) (t := 22) (b := bk1) (off := 0) (k := 8) (v := .slice a_sa (List.length sa) c_sa) En968 (by kernel_rfl) Hv966 rfl rfl (by kernel_rfl) ?_
          intro ac969 En970
          exact any_to hG (by kernel_rfl) (nd705 _ _ bk141 (En970.sub (by kernel_rfl)) (Hv966.pick [0, 1, 2, 3, 4, 5, 6, 7, 8, 9] (by kernel_rfl) (by decide)))
        · rintro _ rfl
          refine op_loadbox (d := some 35) (t := 22) (b := bk1) (off := 1) (k := 8) (v := .slice a_sba (List.length sba) c_sba) En968 (by kernel_rfl) Hv966 rfl rfl (by kernel_rfl) ?_
          intro ac971 En972
          exact any_to hG (by kernel_rfl) (nd721 _ _ bk141 (En972.sub (by kernel_rfl)) (Hv966.pick [0, 1, 2, 3, 4, 5, 6, 7, 8, 9] (by kernel_rfl) (by decide)))
      have nd973 : ∀ (ac : Act) (wo : World), Env ac 77 [(1, .slice a_m (List.length m) c_m), (2, .pointer (some ⟨bk1, 0, none⟩)), (4, .bool false), (6, .pointer (some ⟨bq18, 0, none⟩)), (7, .bool true), (31, .slice a_sa (List.length sa) c_sa), (35, .slice a_sba (List.length sba) c_sba), (38, .pointer (some ⟨bk1, 6, none⟩))] → Ev w [] wo [.box bq18 [.slice auq18 (List.length (List.drop (List.length scb) (sa ++ sba))) cuq18, .bool sbc, .slice adq18 (List.length (List.drop (List.length sbb) sca)) cdq18, .bool scc, .slice ahq18 (List.length sa) chq18, .slice apq18 (List.length sba) cpq18, .slice aqq18 (List.length sbb) cqq18, .bool sbc, .bool sbd, .slice arq18 (List.length sca) crq18, .slice avq18 (List.length scb) cvq18, .bool scc, .bool scd] 66, .vec ahq18 chq18 1 (bys sa) 5, .vec apq18 cpq18 1 (bys sba) 5, .vec aqq18 cqq18 1 (bys sbb) 5, .vec arq18 crq18 1 (bys sca) 5, .vec avq18 cvq18 1 (bys scb) 5, .vec auq18 cuq18 1 (bys (List.drop (List.length scb) (sa ++ sba))) 5, .vec adq18 cdq18 1 (bys (List.drop (List.length sbb) sca)) 5, .box bk1 [.slice a_sa (List.length sa) c_sa, .slice a_sba (List.length sba) c_sba, .slice a_sbb (List.length sbb) c_sbb, .bool sbc, .bool sbd, .slice a_sca (List.length sca) c_sca, .slice a_scb (List.length scb) c_scb, .bool scc, .bool scd] 26] → G 7 #[false, true, true, false, true, true, true, false, true, true, false, false, false, false] ac wo := by
        intro ac974 wo975 En976 Hv977
        refine any_from hG ?_
        refine any_two 0 10 (by kernel_rfl) ?_ ?_
        · rintro _ rfl
          refine op_lit (d := some 29) (t := 22) (T := 5) (m := 0) (parts := #[]) (xs := bys []) (sz := 1) En976 (by kernel_rfl) (by kernel_rfl) rfl (by decide) Hv977 ?_
          intro ac979 wo980 bk978 En981 Hv982
          exact any_to hG (by kernel_rfl) (nd797 _ _ bk978 (En981.sub (by kernel_rfl)) (Hv982.pick [0, 1, 2, 3, 4, 5, 6, 7, 8, 9] (by kernel_rfl) (by decide)))
        · rintro _ rfl
          refine op_loadbox (d := some 39) (t := 22) (b := bk1) (off := 6) (k := 8) (v := .slice a_scb (List.length scb) c_scb) En976 (by kernel_rfl) Hv977 rfl rfl (by kernel_rfl) ?_
          intro ac983 En984
          exact any_to hG (by kernel_rfl) (nd865 _ _ (En984.sub (by kernel_rfl)) (Hv977.pick [0, 1, 2, 3, 4, 5, 6, 7, 8] (by kernel_rfl) (by decide)))
      have nd985 : ∀ (ac : Act) (wo : World), Env ac 77 [(1, .slice a_m (List.length m) c_m), (2, .pointer (some ⟨bk1, 0, none⟩)), (4, .bool false), (6, .pointer (some ⟨bq18, 0, none⟩)), (7, .bool true), (31, .slice a_sa (List.length sa) c_sa), (34, .pointer (some ⟨bk1, 1, none⟩)), (39, .slice a_scb (List.length scb) c_scb)] → Ev w [] wo [.box bq18 [.slice auq18 (List.length (List.drop (List.length scb) (sa ++ sba))) cuq18, .bool sbc, .slice adq18 (List.length (List.drop (List.length sbb) sca)) cdq18, .bool scc, .slice ahq18 (List.length sa) chq18, .slice apq18 (List.length sba) cpq18, .slice aqq18 (List.length sbb) cqq18, .bool sbc, .bool sbd, .slice arq18 (List.length sca) crq18, .slice avq18 (List.length scb) cvq18, .bool scc, .bool scd] 66, .vec ahq18 chq18 1 (bys sa) 5, .vec apq18 cpq18 1 (bys sba) 5, .vec aqq18 cqq18 1 (bys sbb) 5, .vec arq18 crq18 1 (bys sca) 5, .vec avq18 cvq18 1 (bys scb) 5, .vec auq18 cuq18 1 (bys (List.drop (List.length scb) (sa ++ sba))) 5, .vec adq18 cdq18 1 (bys (List.drop (List.length sbb) sca)) 5, .box bk1 [.slice a_sa (List.length sa) c_sa, .slice a_sba (List.length sba) c_sba, .slice a_sbb (List.length sbb) c_sbb, .bool sbc, .bool sbd, .slice a_sca (List.length sca) c_sca, .slice a_scb (List.length scb) c_scb, .bool scc, .bool scd] 26] → G 7 #[false, true, true, false, true, true, false, false, true, true, true, false, false, false] ac wo := by
        intro ac986 wo987 En988 Hv989
        refine any_from hG ?_
        refine any_pureR (d := some 40) En988 (v := .int .i64 ((List.length scb : Nat) : Int)) 11 (by kernel_rfl) (by kernel_rfl) rfl ?_
        intro ac990 En991
        refine any_two 0 6 (by kernel_rfl) ?_ ?_
        · rintro _ rfl
          refine op_lit (d := some 29) (t := 22) (T := 5) (m := 0) (parts := #[]) (xs := bys []) (sz := 1) En991 (by kernel_rfl) (by kernel_rfl) rfl (by decide) Hv989 ?_
          intro ac993 wo994 bk992 En995 Hv996
          exact any_to hG (by kernel_rfl) (nd705 _ _ bk992 (En995.sub (by kernel_rfl)) (Hv996.pick [0, 1, 2, 3, 4, 5, 6, 7, 8, 9] (by kernel_rfl) (by decide)))
        · rintro _ rfl
          refine op_loadbox (d := some 35) (t := 22) (b := bk1) (off := 1) (k := 8) (v := .slice a_sba (List.length sba) c_sba) En991 (by kernel_rfl) Hv989 rfl rfl (by kernel_rfl) ?_
          intro ac997 En998
          exact any_to hG (by kernel_rfl) (nd753 _ _ (En998.sub (by kernel_rfl)) (Hv989.pick [0, 1, 2, 3, 4, 5, 6, 7, 8] (by kernel_rfl) (by decide)))
      have nd999 : ∀ (ac : Act) (wo : World), Env ac 77 [(1, .slice a_m (List.length m) c_m), (2, .pointer (some ⟨bk1, 0, none⟩)), (4, .bool false), (6, .pointer (some ⟨bq18, 0, none⟩)), (7, .bool true), (30, .pointer (some ⟨bk1, 0, none⟩)), (35, .slice a_sba (List.length sba) c_sba), (39, .slice a_scb (List.length scb) c_scb)] → Ev w [] wo [.box bq18 [.slice auq18 (List.length (List.drop (List.length scb) (sa ++ sba))) cuq18, .bool sbc, .slice adq18 (List.length (List.drop (List.length sbb) sca)) cdq18, .bool scc, .slice ahq18 (List.length sa) chq18, .slice apq18 (List.length sba) cpq18, .slice aqq18 (List.length sbb) cqq18, .bool sbc, .bool sbd, .slice arq18 (List.length sca) crq18, .slice avq18 (List.length scb) cvq18, .bool scc, .bool scd] 66, .vec ahq18 chq18 1 (bys sa) 5, .vec apq18 cpq18 1 (bys sba) 5, .vec aqq18 cqq18 1 (bys sbb) 5, .vec arq18 crq18 1 (bys sca) 5, .vec avq18 cvq18 1 (bys scb) 5, .vec auq18 cuq18 1 (bys (List.drop (List.length scb) (sa ++ sba))) 5, .vec adq18 cdq18 1 (bys (List.drop (List.length sbb) sca)) 5, .box bk1 [.slice a_sa (List.length sa) c_sa, .slice a_sba (List.length sba) c_sba, .slice a_sbb (List.length sbb) c_sbb, .bool sbc, .bool sbd, .slice a_sca (List.length sca) c_sca, .slice a_scb (List.length scb) c_scb, .bool scc, .bool scd] 26] → G 7 #[false, true, false, false, true, true, true, false, true, true, true, false, false, false] ac wo := by
        intro ac1000 wo1001 En1002 Hv1003
        refine any_from hG ?_
        refine any_pureR (d := some 40) En1002 (v := .int .i64 ((List.length scb : Nat) : Int)) 11 (by kernel_rfl) (by kernel_rfl) rfl ?_
        intro ac1004 En1005
        refine any_two 0 2 (by kernel_rfl) ?_ ?_
        · rintro _ rfl
          refine op_lit (d := some 29) (t := 22) (T := 5) (m := 0) (parts := #[]) (xs := bys []) (sz := 1) En1005 (by kernel_rfl) (by kernel_rfl) rfl (by decide) Hv1003 ?_
          intro ac1007 wo1008 bk1006 En1009 Hv1010
          exact any_to hG (by kernel_rfl) (nd721 _ _ bk1006 (En1009.sub (by kernel_rfl)) (Hv1010.pick [0, 1, 2, 3, 4, 5, 6, 7, 8, 9] (by kernel_rfl) (by decide)))
        · rintro _ rfl
          refine op_loadbox (d := some 31) (t := 22) (b := bk1) (off := 0) (k := 8) (v := .slice a_sa (List.length sa) c_sa) En1005 (by kernel_rfl) Hv1003 rfl rfl (by kernel_rfl) ?_
          intro ac1011 En1012
          exact any_to hG (by kernel_rfl) (nd753 _ _ (En1012.sub (by kernel_rfl)) (Hv1003.pick [0, 1, 2, 3, 4, 5, 6, 7, 8] (by kernel_rfl) (by decide)))
      have nd1013 : ∀ (ac : Act) (wo : World) (bk141 : Nat), Env ac 77 [(1, .slice a_m (List.length m) c_m), (2, .pointer (some ⟨bk1, 0, none⟩)), (4, .bool false), (6, .pointer (some ⟨bq18, 0, none⟩)), (7, .bool true), (29, .slice (some ⟨bk141, 0, none⟩) 0 0), (30, .pointer (some ⟨bk1, 0, none⟩)), (34, .pointer (some ⟨bk1, 1, none⟩)), (38, .pointer (some ⟨bk1, 6, none⟩))] → Ev w [] wo [.box bq18 [.slice auq18 (List.length (List.drop (List.length scb) (sa ++ sba))) cuq18, .bool sbc, .slice adq18 (List.length (List.drop (List.length sbb) sca)) cdq18, .bool scc, .slice ahq18 (List.length sa) chq18, .slice apq18 (List.length sba) cpq18, .slice aqq18 (List.length sbb) cqq18, .bool sbc, .bool sbd, .slice arq18 (List.length sca) crq18, .slice avq18 (List.length scb) cvq18, .bool scc, .bool scd] 66, .vec ahq18 chq18 1 (bys sa) 5, .vec apq18 cpq18 1 (bys sba) 5, .vec aqq18 cqq18 1 (bys sbb) 5, .vec arq18 crq18 1 (bys sca) 5, .vec avq18 cvq18 1 (bys scb) 5, .vec auq18 cuq18 1 (bys (List.drop (List.length scb) (sa ++ sba))) 5, .vec adq18 cdq18 1 (bys (List.drop (List.length sbb) sca)) 5, .box bk1 [.slice a_sa (List.length sa) c_sa, .slice a_sba (List.length sba) c_sba, .slice a_sbb (List.length sbb) c_sbb, .bool sbc, .bool sbd, .slice a_sca (List.length sca) c_sca, .slice a_scb (List.length scb) c_scb, .bool scc, .bool scd] 26, .vec (some ⟨bk141, 0, none⟩) 0 1 (bys []) 5] → G 8 #[true, true, false, false, true, true, false, false, true, true, false, false, false, false] ac wo := by
        intro ac1014 wo1015 bk141 En1016 Hv1017
        refine any_from hG ?_
        refine any_ways [2, 6, 10] (by kernel_rfl) rfl ?_
        refine ⟨?_, ?_, ?_, trivial⟩
        · rintro _ rfl
          refine op_loadbox (d := some 31) (t := 22) (b := bk1) (off := 0) (k := 8) (v := .slice a_sa (List.length sa) c_sa) En1016 (by kernel_rfl) Hv1017 rfl rfl (by kernel_rfl) ?_
          intro ac1018 En1019
          exact any_to hG (by kernel_rfl) (nd935 _ _ bk141 (En1019.sub (by kernel_rfl)) (Hv1017.pick [0, 1, 2, 3, 4, 5, 6, 7, 8, 9] (by kernel_rfl) (by decide)))
        · rintro _ rfl
          refine op_loadbox (d := some 35) (t := 22) (b := bk1) (off := 1) (k := 8) (v := .slice a_sba (List.length sba) c_sba) En1016 (by kernel_rfl) Hv1017 rfl rfl (by kernel_rfl) ?_
          intro ac1020 En1021
          exact any_to hG (by kernel_rfl) (nd953 _ _ bk141 (En1021.sub (by kernel_rfl)) (Hv1017.pick [0, 1, 2, 3, 4, 5, 6, 7, 8, 9] (by kernel_rfl) (by decide)))
        · rintro _ rfl
          refine op_loadbox (d := some 39) (t := 22) (b := bk1) (off := 6) (k := 8) (v := .slice a_scb (List.length scb) c_scb) En1016 (by kernel_rfl) Hv1017 rfl rfl (by kernel_rfl) ?_
          intro ac1022 En1023
          exact any_to hG (by kernel_rfl) (nd962 _ _ bk141 (En1023.sub (by kernel_rfl)) (Hv1017.pick [0, 1, 2, 3, 4, 5, 6, 7, 8, 9] (by kernel_rfl) (by decide)))
      have nd1024 : ∀ (ac : Act) (wo : World), Env ac 77 [(1, .slice a_m (List.length m) c_m), (2, .pointer (some ⟨bk1, 0, none⟩)), (4, .bool false), (6, .pointer (some ⟨bq18, 0, none⟩)), (7, .bool true), (31, .slice a_sa (List.length sa) c_sa), (34, .pointer (some ⟨bk1, 1, none⟩)), (38, .pointer (some ⟨bk1, 6, none⟩))] → Ev w [] wo [.box bq18 [.slice auq18 (List.length (List.drop (List.length scb) (sa ++ sba))) cuq18, .bool sbc, .slice adq18 (List.length (List.drop (List.length sbb) sca)) cdq18, .bool scc, .slice ahq18 (List.length sa) chq18, .slice apq18 (List.length sba) cpq18, .slice aqq18 (List.length sbb) cqq18, .bool sbc, .bool sbd, .slice arq18 (List.length sca) crq18, .slice avq18 (List.length scb) cvq18, .bool scc, .bool scd] 66, .vec ahq18 chq18 1 (bys sa) 5, .vec apq18 cpq18 1 (bys sba) 5, .vec aqq18 cqq18 1 (bys sbb) 5, .vec arq18 crq18 1 (bys sca) 5, .vec avq18 cvq18 1 (bys scb) 5, .vec auq18 cuq18 1 (bys (List.drop (List.length scb) (sa ++ sba))) 5, .vec adq18 cdq18 1 (bys (List.drop (List.length sbb) sca)) 5, .box bk1 [.slice a_sa (List.length sa) c_sa, .slice a_sba (List.length sba) c_sba, .slice a_sbb (List.length sbb) c_sbb, .bool sbc, .bool sbd, .slice a_sca (List.length sca) c_sca, .slice a_scb (List.length scb) c_scb, .bool scc, .bool scd] 26] → G 8 #[false, true, true, false, true, true, false, false, true, true, false, false, false, false] ac wo := by
        intro ac1025 wo1026 En1027 Hv1028
        refine any_from hG ?_
        refine any_ways [0, 6, 10] (by kernel_rfl) rfl ?_
        refine ⟨?_, ?_, ?_, trivial⟩
        · rintro _ rfl
          refine op_lit (d := some 29) (t := 22) (T := 5) (m := 0) (parts := #[]) (xs := bys []) (sz := 1) En1027 (by kernel_rfl) (by kernel_rfl) rfl (by decide) Hv1028 ?_
          intro ac1030 wo1031 bk1029 En1032 Hv1033
          exact any_to hG (by kernel_rfl) (nd935 _ _ bk1029 (En1032.sub (by kernel_rfl)) (Hv1033.pick [0, 1, 2, 3, 4, 5, 6, 7, 8, 9] (by kernel_rfl) (by decide)))
        · rintro _ rfl
          refine op_loadbox (d := some 35) (t := 22) (b := bk1) (off := 1) (k := 8) (v := .slice a_sba (List.length sba) c_sba) En1027 (by kernel_rfl) Hv1028 rfl rfl (by kernel_rfl) ?_
          intro ac1034 En1035
          exact any_to hG (by kernel_rfl) (nd973 _ _ (En1035.sub (by kernel_rfl)) (Hv1028.pick [0, 1, 2, 3, 4, 5, 6, 7, 8] (by kernel_rfl) (by decide)))
        · rintro _ rfl
          refine op_loadbox (d := some 39) (t := 22) (b := bk1) (off := 6) (k := 8) (v := .slice a_scb (List.length scb) c_scb) En1027 (by kernel_rfl) Hv1028 rfl rfl (by kernel_rfl) ?_
          intro ac1036 En1037
          exact any_to hG (by kernel_rfl) (nd985 _ _ (En1037.sub (by kernel_rfl)) (Hv1028.pick [0, 1, 2, 3, 4, 5, 6, 7, 8] (by kernel_rfl) (by decide)))
      have nd1038 : ∀ (ac : Act) (wo : World), Env ac 77 [(1, .slice a_m (List.length m) c_m), (2, .pointer (some ⟨bk1, 0, none⟩)), (4, .bool false), (6, .pointer (some ⟨bq18, 0, none⟩)), (7, .bool true), (30, .pointer (some ⟨bk1, 0, none⟩)), (35, .slice a_sba (List.length sba) c_sba), (38, .pointer (some ⟨bk1, 6, none⟩))] → Ev w [] wo [.box bq18 [.slice auq18 (List.length (List.drop (List.length scb) (sa ++ sba))) cuq18, .bool sbc, .slice adq18 (List.length (List.drop (List.length sbb) sca)) cdq18, .bool scc, .slice ahq18 (List.length sa) chq18, .slice apq18 (List.length sba) cpq18, .slice aqq18 (List.length sbb) cqq18, .bool sbc, .bool sbd, .slice arq18 (List.length sca) crq18, .slice avq18 (List.length scb) cvq18, .bool scc, .bool scd] 66, .vec ahq18 chq18 1 (bys sa) 5, .vec apq18 cpq18 1 (bys sba) 5, .vec aqq18 cqq18 1 (bys sbb) 5, .vec arq18 crq18 1 (bys sca) 5, .vec avq18 cvq18 1 (bys scb) 5, .vec auq18 cuq18 1 (bys (List.drop (List.length scb) (sa ++ sba))) 5, .vec adq18 cdq18 1 (bys (List.drop (List.length sbb) sca)) 5, .box bk1 [.slice a_sa (List.length sa) c_sa, .slice a_sba (List.length sba) c_sba, .slice a_sbb (List.length sbb) c_sbb, .bool sbc, .bool sbd, .slice a_sca (List.length sca) c_sca, .slice a_scb (List.length scb) c_scb, .bool scc, .bool scd] 26] → G 8 #[false, true, false, false, true, true, true, false, true, true, false, false, false, false] ac wo := by
        intro ac1039 wo1040 En1041 Hv1042
        refine any_from hG ?_
        refine any_ways [0, 2, 10] (by kernel_rfl) rfl ?_
        refine ⟨?_, ?_, ?_, trivial⟩
        · rintro _ rfl
          refine op_lit (d := some 29) (t := 22) (T := 5) (m := 0) (parts := #[]) (xs := bys []) (sz := 1) En1041 (by kernel_rfl) (by kernel_rfl) rfl (by decide) Hv1042 ?_
          intro ac1044 wo1045 bk1043 En1046 Hv1047
          exact any_to hG (by kernel_rfl) (nd953 _ _ bk1043 (En1046.sub (by kernel_rfl)) (Hv1047.pick [0, 1, 2, 3, 4, 5, 6, 7, 8, 9] (by kernel_rfl) (by decide)))
        · rintro _ rfl
          refine op_loadbox (d := some 31) (t := 22) (b := bk1) (off := 0) (k := 8) (v := .slice a_sa (List.length sa) c_sa) En1041 (by kernel_rfl) Hv1042 rfl rfl (by kernel_rfl) ?_
          intro ac1048 En1049
          exact any_to hG (by kernel_rfl) (nd973 _ _ (En1049.sub (by kernel_rfl)) (Hv1042.pick [0, 1, 2, 3, 4, 5, 6, 7, 8] (by kernel_rfl) (by decide)))
        · rintro _ rfl
          refine op_loadbox (d := some 39) (t := 22) (b := bk1) (off := 6) (k := 8) (v := .slice a_scb (List.length scb) c_scb) En1041 (by kernel_rfl) Hv1042 rfl rfl (by kernel_rfl) ?_
          intro ac1050 En1051
          exact any_to hG (by kernel_rfl) (nd999 _ _ (En1051.sub (by kernel_rfl)) (Hv1042.pick [0, 1, 2, 3, 4, 5, 6, 7, 8] (by kernel_rfl) (by decide)))
      have nd1052 : ∀ (ac : Act) (wo : World), Env ac 77 [(1, .slice a_m (List.length m) c_m), (2, .pointer (some ⟨bk1, 0, none⟩)), (4, .bool false), (6, .pointer (some ⟨bq18, 0, none⟩)), (7, .bool true), (30, .pointer (some ⟨bk1, 0, none⟩)), (34, .pointer (some ⟨bk1, 1, none⟩)), (39, .slice a_scb (List.length scb) c_scb)] → Ev w [] wo [.box bq18 [.slice auq18 (List.length (List.drop (List.length scb) (sa ++ sba))) cuq18, .bool sbc, .slice adq18 (List.length (List.drop (List.length sbb) sca)) cdq18, .bool scc, .slice ahq18 (List.length sa) chq18, .slice apq18 (List.length sba) cpq18, .slice aqq18 (List.length sbb) cqq18, .bool sbc, .bool sbd, .slice arq18 (List.length sca) crq18, .slice avq18 (List.length scb) cvq18, .bool scc, .bool scd] 66, .vec ahq18 chq18 1 (bys sa) 5, .vec apq18 cpq18 1 (bys sba) 5, .vec aqq18 cqq18 1 (bys sbb) 5, .vec arq18 crq18 1 (bys sca) 5, .vec avq18 cvq18 1 (bys scb) 5, .vec auq18 cuq18 1 (bys (List.drop (List.length scb) (sa ++ sba))) 5, .vec adq18 cdq18 1 (bys (List.drop (List.length sbb) sca)) 5, .box bk1 [.slice a_sa (List.length sa) c_sa, .slice a_sba (List.length sba) c_sba, .slice a_sbb (List.length sbb) c_sbb, .bool sbc, .bool sbd, .slice a_sca (List.length sca) c_sca, .slice a_scb (List.length scb) c_scb, .bool scc, .bool scd] 26] → G 8 #[false, true, false, false, true, true, false, false, true, true, true, false, false, false] ac wo := by
        intro ac1053 wo1054 En1055 Hv1056
        refine any_from hG ?_
        refine any_pureR (d := some 40) En1055 (v := .int .i64 ((List.length scb : Nat) : Int)) 11 (by kernel_rfl) (by kernel_rfl) rfl ?_
        intro ac1057 En1058
        refine any_ways [0, 2, 6] (by kernel_rfl) rfl ?_
        refine ⟨?_, ?_, ?_, trivial⟩
        · rintro _ rfl
          refine op_lit (d := some 29) (t := 22) (T := 5) (m := 0) (parts := #[]) (xs := bys []) (sz := 1) En1058 (by kernel_rfl) (by kernel_rfl) rfl (by decide) Hv1056 ?_
          intro ac1060 wo1061 bk1059 En1062 Hv1063
          exact any_to hG (by kernel_rfl) (nd902 _ _ bk1059 (En1062.sub (by kernel_rfl)) (Hv1063.pick [0, 1, 2, 3, 4, 5, 6, 7, 8, 9] (by kernel_rfl) (by decide)))
        · rintro _ rfl
          refine op_loadbox (d := some 31) (t := 22) (b := bk1) (off := 0) (k := 8) (v := .slice a_sa (List.length sa) c_sa) En1058 (by kernel_rfl) Hv1056 rfl rfl (by kernel_rfl) ?_
          intro ac1064 En1065
          exact any_to hG (by kernel_rfl) (nd911 _ _ (En1065.sub (by kernel_rfl)) (Hv1056.pick [0, 1, 2, 3, 4, 5, 6, 7, 8] (by kernel_rfl) (by decide)))
        · rintro _ rfl
          refine op_loadbox (d := some 35) (t := 22) (b := bk1) (off := 1) (k := 8) (v := .slice a_sba (List.length sba) c_sba) En1058 (by kernel_rfl) Hv1056 rfl rfl (by kernel_rfl) ?_
          intro ac1066 En1067
          exact any_to hG (by kernel_rfl) (nd923 _ _ (En1067.sub (by kernel_rfl)) (Hv1056.pick [0, 1, 2, 3, 4, 5, 6, 7, 8] (by kernel_rfl) (by decide)))
      refine any_from hG ?_
      refine any_pureR (d := some 30) En128 (v := .pointer (some ⟨bk1, 0, none⟩)) 1 (by kernel_rfl) (by kernel_rfl) rfl ?_
      intro ac1068 En1069
      refine any_pureR (d := some 33) En1069 (v := .pointer (some ⟨bk1, 1, none⟩)) 4 (by kernel_rfl) (by kernel_rfl) rfl ?_
      intro ac1070 En1071
      refine any_pureR (d := some 34) En1071 (v := .pointer (some ⟨bk1, 1, none⟩)) 5 (by kernel_rfl) (by kernel_rfl) rfl ?_
      intro ac1072 En1073
      refine any_pureR (d := some 37) En1073 (v := .pointer (some ⟨bk1, 5, none⟩)) 8 (by kernel_rfl) (by kernel_rfl) rfl ?_
      intro ac1074 En1075
      refine any_pureR (d := some 38) En1075 (v := .pointer (some ⟨bk1, 6, none⟩)) 9 (by kernel_rfl) (by kernel_rfl) rfl ?_
      intro ac1076 En1077
      refine any_ways [0, 2, 6, 10] (by kernel_rfl) rfl ?_
      refine ⟨?_, ?_, ?_, ?_, trivial⟩
      · rintro _ rfl
        refine op_lit (d := some 29) (t := 22) (T := 5) (m := 0) (parts := #[]) (xs := bys []) (sz := 1) En1077 (by kernel_rfl) (by kernel_rfl) rfl (by decide) wo130 ?_
        intro ac1079 wo1080 bk1078 En1081 Hv1082
        exact any_to hG (by kernel_rfl) (nd1013 _ _ bk1078 (En1081.sub (by kernel_rfl)) (Hv1082.pick [0, 1, 2, 3, 4, 5, 6, 7, 8, 9] (by kernel_rfl) (by decide)))
      · rintro _ rfl
        refine op_loadbox (d := some 31) (t := 22) (b := bk1) (off := 0) (k := 8) (v := .slice a_sa (List.length sa) c_sa) En1077 (by kernel_rfl) wo130 rfl rfl (by kernel_rfl) ?_
        intro ac1083 En1084
        exact any_to hG (by kernel_rfl) (nd1024 _ _ (En1084.sub (by kernel_rfl)) (wo130.pick [0, 1, 2, 3, 4, 5, 6, 7, 8] (by kernel_rfl) (by decide)))
      · rintro _ rfl
        refine op_loadbox (d := some 35) (t := 22) (b := bk1) (off := 1) (k := 8) (v := .slice a_sba (List.length sba) c_sba) En1077 (by kernel_rfl) wo130 rfl rfl (by kernel_rfl) ?_
        intro ac1085 En1086
        exact any_to hG (by kernel_rfl) (nd1038 _ _ (En1086.sub (by kernel_rfl)) (wo130.pick [0, 1, 2, 3, 4, 5, 6, 7, 8] (by kernel_rfl) (by decide)))
      · rintro _ rfl
        refine op_loadbox (d := some 39) (t := 22) (b := bk1) (off := 6) (k := 8) (v := .slice a_scb (List.length scb) c_scb) En1077 (by kernel_rfl) wo130 rfl rfl (by kernel_rfl) ?_
        intro ac1087 En1088
        exact any_to hG (by kernel_rfl) (nd1052 _ _ (En1088.sub (by kernel_rfl)) (wo130.pick [0, 1, 2, 3, 4, 5, 6, 7, 8] (by kernel_rfl) (by decide)))
    rintro ac1089 wo1090 ⟨ao160, cp161, En1091, Hv1092⟩
    refine then_normal ?_
    refine wp_seq ?_
    refine wp_seq ?_
    refine region_from ?_  -- region 9
    refine d_pures [(1, .slice a_m (List.length m) c_m), (2, .pointer (some ⟨bk1, 0, none⟩)), (4, .bool false), (6, .pointer (some ⟨bq18, 0, none⟩)), (7, .bool true), (8, .slice (cutAt ao160 cp161 (List.length scb) 1) (List.length (List.drop (List.length scb) (sa ++ sba))) (cp161 - (List.length scb))), (43, .pointer (some ⟨bk1, 3, none⟩))] [.pointer (some ⟨bk1, 1, none⟩), .pointer (some ⟨bk1, 3, none⟩)] 2 En1091 (by kernel_rfl) (by kernel_rfl) rfl ?_
    intro ac1093 En1094
    refine from_op (by kernel_rfl) ?_
    refine op_loadbox (d := some 44) (t := 4) (b := bk1) (off := 3) (k := 8) (v := .bool sbc) En1094 (by kernel_rfl) Hv1092 rfl rfl (by kernel_rfl) ?_
    intro ac1095 En1096
    refine from_end (by kernel_rfl) ?_
    refine then_normal ?_
    refine cond_at En1096 (t := sbc) (by kernel_rfl) (fun hc1097 => ?_) (fun hc1097 => ?_)
    ·
      replace hc1097 : sbc = true := hc1097
      refine region_from ?_  -- region 10
      refine d_pures [(1, .slice none 0 0), (2, .pointer (some ⟨bk1, 0, none⟩)), (4, .bool false), (6, .pointer (some ⟨bq18, 0, none⟩)), (7, .bool true), (8, .slice (cutAt ao160 cp161 (List.length scb) 1) (List.length (List.drop (List.length scb) (sa ++ sba))) (cp161 - (List.length scb)))] [.slice none 0 0] 1 En1096 (by kernel_rfl) (by kernel_rfl) rfl ?_
      intro ac1098 En1099
      refine from_end (by kernel_rfl) ?_
      refine then_normal ?_
      refine wp_seq ?_
      refine region_from ?_  -- region 11
      refine d_pures [(1, .slice none 0 0), (2, .pointer (some ⟨bk1, 0, none⟩)), (4, .bool false), (6, .pointer (some ⟨bq18, 0, none⟩)), (7, .bool true), (8, .slice (cutAt ao160 cp161 (List.length scb) 1) (List.length (List.drop (List.length scb) (sa ++ sba))) (cp161 - (List.length scb))), (45, .pointer (some ⟨bq18, 0, none⟩)), (46, .slice none 0 0)] [.pointer (some ⟨bq18, 0, none⟩), .slice none 0 0] 2 En1099 (by kernel_rfl) (by kernel_rfl) rfl ?_
      intro ac1100 En1101
      refine from_op (by kernel_rfl) ?_
      have hM1103 : Heap wo1090 [.box bq18 [.slice auq18 (List.length (List.drop (List.length scb) (sa ++ sba))) cuq18, .bool sbc, .slice adq18 (List.length (List.drop (List.length sbb) sca)) cdq18, .bool scc, .slice ahq18 (List.length sa) chq18, .slice apq18 (List.length sba) cpq18, .slice aqq18 (List.length sbb) cqq18, .bool sbc, .bool sbd, .slice arq18 (List.length sca) crq18, .slice avq18 (List.length scb) cvq18, .bool scc, .bool scd] 66, .vec auq18 cuq18 1 (bys (List.drop (List.length scb) (sa ++ sba))) 5, .vec adq18 cdq18 1 (bys (List.drop (List.length sbb) sca)) 5, .vec ahq18 chq18 1 (bys sa) 5, .vec apq18 cpq18 1 (bys sba) 5, .vec aqq18 cqq18 1 (bys sbb) 5, .vec arq18 crq18 1 (bys sca) 5, .vec avq18 cvq18 1 (bys scb) 5] := Hv1092.heap.pick [0, 6, 7, 1, 2, 3, 4, 5] (by kernel_rfl) (by decide)
      refine op_call (d := some 47) (f := 19) (args := #[.pointer (some ⟨bq18, 0, none⟩), .int .i64 1, .slice none 0 0]) En1101 (by kernel_rfl) ((xwrite _ bq18 auq18 adq18 ahq18 apq18 aqq18 arq18 avq18 cuq18 cdq18 chq18 cpq18 cqq18 crq18 cvq18 (List.drop (List.length scb) (sa ++ sba)) (List.drop (List.length sbb) sca) sa sba sbb sca scb sbc sbd scc scd none 0 0 [] (by first | rfl | (simp; done) | (simp; omega) | omega) (InB.nil _ _) 1 hM1103 (by first | omega | (simp; done) | (simp; omega))).mono ?_)
      rintro _ wo1105 ⟨auq1102, adq1102, ahq1102, apq1102, aqq1102, arq1102, avq1102, cuq1102, cdq1102, chq1102, cpq1102, cqq1102, crq1102, cvq1102, luq1102, ldq1102, lhq1102, lpq1102, lqq1102, lrq1102, lvq1102, fcq1102, feq1102, bcq1102, beq1102, rfl, he1108, f_q1102⟩
      refine ⟨_, rfl, ?_⟩
      intro ac1104 En1106
      have Hv1107 : Ev w [] wo1105 [.box bq18 [.slice auq1102 (List.length luq1102) cuq1102, .bool fcq1102, .slice adq1102 (List.length ldq1102) cdq1102, .bool bcq1102, .slice ahq1102 (List.length lhq1102) chq1102, .slice apq1102 (List.length lpq1102) cpq1102, .slice aqq1102 (List.length lqq1102) cqq1102, .bool fcq1102, .bool feq1102, .slice arq1102 (List.length lrq1102) crq1102, .slice avq1102 (List.length lvq1102) cvq1102, .bool bcq1102, .bool beq1102] 66, .vec auq1102 cuq1102 1 (bys luq1102) 5, .vec adq1102 cdq1102 1 (bys ldq1102) 5, .vec ahq1102 chq1102 1 (bys lhq1102) 5, .vec apq1102 cpq1102 1 (bys lpq1102) 5, .vec aqq1102 cqq1102 1 (bys lqq1102) 5, .vec arq1102 crq1102 1 (bys lrq1102) 5, .vec avq1102 cvq1102 1 (bys lvq1102) 5, .box bk1 [.slice a_sa (List.length sa) c_sa, .slice a_sba (List.length sba) c_sba, .slice a_sbb (List.length sbb) c_sbb, .bool sbc, .bool sbd, .slice a_sca (List.length sca) c_sca, .slice a_scb (List.length scb) c_scb, .bool scc, .bool scd] 26, .vec (cutAt ao160 cp161 (List.length scb) 1) (cp161 - (List.length scb)) 1 (bys (List.drop (List.length scb) (sa ++ sba))) 5] := Hv1092.trans (Ev.call (R := [.box bk1 [.slice a_sa (List.length sa) c_sa, .slice a_sba (List.length sba) c_sba, .slice a_sbb (List.length sbb) c_sbb, .bool sbc, .bool sbd, .slice a_sca (List.length sca) c_sca, .slice a_scb (List.length scb) c_scb, .bool scc, .bool scd] 26, .vec (cutAt ao160 cp161 (List.length scb) 1) (cp161 - (List.length scb)) 1 (bys (List.drop (List.length scb) (sa ++ sba))) 5]) Hv1092.heap [0, 6, 7, 1, 2, 3, 4, 5, 8, 9] (by kernel_rfl) (by decide) he1108)
      clear hM1103 he1108
      refine from_end (by kernel_rfl) ?_
      refine then_normal ?_
      refine wp_seq ?_
      refine region_from ?_  -- region 12
      refine d_pures [(1, .slice none 0 0), (2, .pointer (some ⟨bk1, 0, none⟩)), (4, .bool false), (6, .pointer (some ⟨bq18, 0, none⟩)), (7, .bool true), (8, .slice (cutAt ao160 cp161 (List.length scb) 1) (List.length (List.drop (List.length scb) (sa ++ sba))) (cp161 - (List.length scb))), (48, .pointer (some ⟨bq18, 0, none⟩)), (53, .int .i64 (IntKind.wrap .i64 (((List.length (List.drop (List.length scb) (sa ++ sba)) : Nat) : Int) + (0 : Int))))] [.pointer (some ⟨bq18, 0, none⟩), .slice (cutAt ao160 cp161 (List.length scb) 1) (List.length (List.drop (List.length scb) (sa ++ sba))) (cp161 - (List.length scb)), .int .i64 ((List.length (List.drop (List.length scb) (sa ++ sba)) : Nat) : Int), .slice none 0 0, .int .i64 0, .int .i64 (IntKind.wrap .i64 (((List.length (List.drop (List.length scb) (sa ++ sba)) : Nat) : Int) + (0 : Int)))] 6 En1106 (by kernel_rfl) (by kernel_rfl) rfl ?_
      intro ac1109 En1110
      rw [Go.Dbr.wr64 (e := ((List.length (List.drop (List.length scb) (sa ++ sba)) : Nat) : Int) + (0 : Int)) (x := (((List.length (List.drop (List.length scb) (sa ++ sba))) + 0 : Nat) : Int)) (by omega) (by omega) (by omega)] at En1110
      refine d_pures [(1, .slice none 0 0), (2, .pointer (some ⟨bk1, 0, none⟩)), (4, .bool false), (6, .pointer (some ⟨bq18, 0, none⟩)), (7, .bool true), (8, .slice (cutAt ao160 cp161 (List.length scb) 1) (List.length (List.drop (List.length scb) (sa ++ sba))) (cp161 - (List.length scb))), (48, .pointer (some ⟨bq18, 0, none⟩)), (54, .int .i64 (IntKind.wrap .i64 ((((List.length (List.drop (List.length scb) (sa ++ sba))) + 0 : Nat) : Int) + (5 : Int))))] [.int .i64 (IntKind.wrap .i64 ((((List.length (List.drop (List.length scb) (sa ++ sba))) + 0 : Nat) : Int) + (5 : Int)))] 7 En1110 (by kernel_rfl) (by kernel_rfl) rfl ?_
      intro ac1111 En1112
      rw [Go.Dbr.wr64 (e := (((List.length (List.drop (List.length scb) (sa ++ sba))) + 0 : Nat) : Int) + (5 : Int)) (x := ((((List.length (List.drop (List.length scb) (sa ++ sba))) + 0) + 5 : Nat) : Int)) (by omega) (by omega) (by omega)] at En1112
      refine from_op (by kernel_rfl) ?_
      have hz1 : Rel.size ((Rel.of sa sba sbb sbc sbd sca scb scc scd).write 1 ([] : List UInt8)) ≤ 2097152 := by have h1 := Rel.size_write (Rel.of sa sba sbb sbc sbd sca scb scc scd) 1 ([] : List UInt8); have h3 : List.length (([] : List UInt8) : List UInt8) ≤ 1048576 := (by first | omega | simp); omega
      have hS := Rel.sizes (n := 2097152) (by rw [f_q1102]; exact Rel.ok_write hok _ _) (by rw [f_q1102]; exact hz1)
      have hM1114 : Heap wo1105 [.box bq18 [.slice auq1102 (List.length luq1102) cuq1102, .bool fcq1102, .slice adq1102 (List.length ldq1102) cdq1102, .bool bcq1102, .slice ahq1102 (List.length lhq1102) chq1102, .slice apq1102 (List.length lpq1102) cpq1102, .slice aqq1102 (List.length lqq1102) cqq1102, .bool fcq1102, .bool feq1102, .slice arq1102 (List.length lrq1102) crq1102, .slice avq1102 (List.length lvq1102) cvq1102, .bool bcq1102, .bool beq1102] 66, .vec auq1102 cuq1102 1 (bys luq1102) 5, .vec adq1102 cdq1102 1 (bys ldq1102) 5, .vec ahq1102 chq1102 1 (bys lhq1102) 5, .vec apq1102 cpq1102 1 (bys lpq1102) 5, .vec aqq1102 cqq1102 1 (bys lqq1102) 5, .vec arq1102 crq1102 1 (bys lrq1102) 5, .vec avq1102 cvq1102 1 (bys lvq1102) 5] := Hv1107.heap.pick [0, 1, 2, 3, 4, 5, 6, 7] (by kernel_rfl) (by decide)
      refine op_call (d := some 55) (f := 21) (args := #[.pointer (some ⟨bq18, 0, none⟩), .int .i64 2, .int .i64 ((((List.length (List.drop (List.length scb) (sa ++ sba))) + 0) + 5 : Nat) : Int)]) En1112 (by kernel_rfl) ((xread _ bq18 auq1102 adq1102 ahq1102 apq1102 aqq1102 arq1102 avq1102 cuq1102 cdq1102 chq1102 cpq1102 cqq1102 crq1102 cvq1102 luq1102 ldq1102 lhq1102 lpq1102 lqq1102 lrq1102 lvq1102 fcq1102 feq1102 bcq1102 beq1102 ((((List.length (List.drop (List.length scb) (sa ++ sba))) + 0) + 5 : Nat) : Int) 2 hM1114 (by omega)).mono ?_)
      rintro _ wo1116 ⟨auq1113, adq1113, ahq1113, apq1113, aqq1113, arq1113, avq1113, cuq1113, cdq1113, chq1113, cpq1113, cqq1113, crq1113, cvq1113, luq1113, ldq1113, lhq1113, lpq1113, lqq1113, lrq1113, lvq1113, fcq1113, feq1113, bcq1113, beq1113, aoq1113, coq1113, loq1113, rfl, he1119, f_q1113, g_q1113⟩
      refine ⟨_, rfl, ?_⟩
      intro ac1115 En1117
      have Hv1118 : Ev w [] wo1116 [.box bq18 [.slice auq1113 (List.length luq1113) cuq1113, .bool fcq1113, .slice adq1113 (List.length ldq1113) cdq1113, .bool bcq1113, .slice ahq1113 (List.length lhq1113) chq1113, .slice apq1113 (List.length lpq1113) cpq1113, .slice aqq1113 (List.length lqq1113) cqq1113, .bool fcq1113, .bool feq1113, .slice arq1113 (List.length lrq1113) crq1113, .slice avq1113 (List.length lvq1113) cvq1113, .bool bcq1113, .bool beq1113] 66, .vec auq1113 cuq1113 1 (bys luq1113) 5, .vec adq1113 cdq1113 1 (bys ldq1113) 5, .vec ahq1113 chq1113 1 (bys lhq1113) 5, .vec apq1113 cpq1113 1 (bys lpq1113) 5, .vec aqq1113 cqq1113 1 (bys lqq1113) 5, .vec arq1113 crq1113 1 (bys lrq1113) 5, .vec avq1113 cvq1113 1 (bys lvq1113) 5, .vec aoq1113 coq1113 1 (bys loq1113) 5, .box bk1 [.slice a_sa (List.length sa) c_sa, .slice a_sba (List.length sba) c_sba, .slice a_sbb (List.length sbb) c_sbb, .bool sbc, .bool sbd, .slice a_sca (List.length sca) c_sca, .slice a_scb (List.length scb) c_scb, .bool scc, .bool scd] 26, .vec (cutAt ao160 cp161 (List.length scb) 1) (cp161 - (List.length scb)) 1 (bys (List.drop (List.length scb) (sa ++ sba))) 5] := Hv1107.trans (Ev.call (R := [.box bk1 [.slice a_sa (List.length sa) c_sa, .slice a_sba (List.length sba) c_sba, .slice a_sbb (List.length sbb) c_sbb, .bool sbc, .bool sbd, .slice a_sca (List.length sca) c_sca, .slice a_scb (List.length scb) c_scb, .bool scc, .bool scd] 26, .vec (cutAt ao160 cp161 (List.length scb) 1) (cp161 - (List.length scb)) 1 (bys (List.drop (List.length scb) (sa ++ sba))) 5]) Hv1107.heap [0, 1, 2, 3, 4, 5, 6, 7, 8, 9] (by kernel_rfl) (by decide) he1119)
      clear hM1114 he1119
      have hS2 := Rel.sizes (n := 2097152) (by rw [f_q1113, f_q1102]; exact Rel.ok_read (Rel.ok_write hok _ _) _ _) (by rw [f_q1113, f_q1102, Rel.size_read]; exact hz1)
      have hmm : (Rel.of sa sba sbb sbc sbd sca scb scc scd).fc = true → ([] : List UInt8) = [] := fun _ => rfl
      have hnn : (((Rel.of sa sba sbb sbc sbd sca scb scc scd).up.length + List.length ([] : List UInt8) : Nat) : Int) ≤ ((((List.length (List.drop (List.length scb) (sa ++ sba))) + 0) + 5 : Nat) : Int) := by simp only [Rel.of, List.length_drop, List.length_append, List.length_nil]; omega
      have hout : loq1113 = (List.drop (List.length scb) (sa ++ sba)) ++ ([] : List UInt8) := by rw [g_q1113, f_q1102]; exact Rel.tail_out _ hmm hnn
      have hbe : beq1113 = sbc := by have h1 := congrArg Rel.be f_q1113; rw [f_q1102] at h1; exact h1.trans (Rel.tail_end hok _ hmm hnn)
      refine d_pures [(1, .slice none 0 0), (2, .pointer (some ⟨bk1, 0, none⟩)), (4, .bool false), (6, .pointer (some ⟨bq18, 0, none⟩)), (7, .bool true), (8, .slice (cutAt ao160 cp161 (List.length scb) 1) (List.length (List.drop (List.length scb) (sa ++ sba))) (cp161 - (List.length scb))), (9, .slice aoq1113 (List.length loq1113) coq1113)] [.slice aoq1113 (List.length loq1113) coq1113] 9 En1117 (by kernel_rfl) (by kernel_rfl) rfl ?_
      intro ac1120 En1121
      refine from_end (by kernel_rfl) ?_
      refine then_normal ?_
      refine wp_seq ?_
      refine region_cut (F := fun ac wo => Env ac 77 [(1, .slice none 0 0), (2, .pointer (some ⟨bk1, 0, none⟩)), (4, .bool true), (6, .pointer (some ⟨bq18, 0, none⟩)), (8, .slice (cutAt ao160 cp161 (List.length scb) 1) (List.length (List.drop (List.length scb) (sa ++ sba))) (cp161 - (List.length scb)))] ∧ Ev w [] wo [.box bq18 [.slice auq1113 (List.length luq1113) cuq1113, .bool fcq1113, .slice adq1113 (List.length ldq1113) cdq1113, .bool bcq1113, .slice ahq1113 (List.length lhq1113) chq1113, .slice apq1113 (List.length lpq1113) cpq1113, .slice aqq1113 (List.length lqq1113) cqq1113, .bool fcq1113, .bool feq1113, .slice arq1113 (List.length lrq1113) crq1113, .slice avq1113 (List.length lvq1113) cvq1113, .bool bcq1113, .bool beq1113] 66, .vec ahq1113 chq1113 1 (bys lhq1113) 5, .vec apq1113 cpq1113 1 (bys lpq1113) 5, .vec aqq1113 cqq1113 1 (bys lqq1113) 5, .vec arq1113 crq1113 1 (bys lrq1113) 5, .vec avq1113 cvq1113 1 (bys lvq1113) 5, .vec auq1113 cuq1113 1 (bys luq1113) 5, .vec adq1113 cdq1113 1 (bys ldq1113) 5, .box bk1 [.slice a_sa (List.length sa) c_sa, .slice a_sba (List.length sba) c_sba, .slice a_sbb (List.length sbb) c_sbb, .bool sbc, .bool sbd, .slice a_sca (List.length sca) c_sca, .slice a_scb (List.length scb) c_scb, .bool scc, .bool scd] 26, .vec (cutAt ao160 cp161 (List.length scb) 1) (cp161 - (List.length scb)) 1 (bys (List.drop (List.length scb) (sa ++ sba))) 5]) ?_ ?_
      ·
        refine draw_any (by kernel_rfl) 22 (by kernel_rfl) ?_  -- region 13
        have wo1122 := Hv1118.trans (Ev.drew Hv1118.heap)
        refine any_name fun G hG => ?_
        have nd1255 : ∀ (ac : Act) (wo : World) (nhq1153 : _) (npq1153 : _) (nqq1153 : _) (nrq1153 : _) (nvq1153 : _) (mhq1153 : _) (mpq1153 : _) (mqq1153 : _) (mrq1153 : _) (mvq1153 : _), Env ac 77 [(1, .slice none 0 0), (2, .pointer (some ⟨bk1, 0, none⟩)), (4, .bool false), (6, .pointer (some ⟨bq18, 0, none⟩)), (8, .slice (cutAt ao160 cp161 (List.length scb) 1) (List.length (List.drop (List.length scb) (sa ++ sba))) (cp161 - (List.length scb))), (67, .bool true), (69, .agg #[.slice nhq1153 (List.length lhq1113) mhq1153, .slice npq1153 (List.length lpq1113) mpq1153, .slice nqq1153 (List.length lqq1113) mqq1153, .bool fcq1113, .bool feq1113, .slice nrq1153 (List.length lrq1113) mrq1153, .slice nvq1153 (List.length lvq1113) mvq1153, .bool bcq1113, .bool beq1113]), (73, .pointer (some ⟨bk1, 3, none⟩))] → Ev w [] wo [.box bq18 [.slice auq1113 (List.length luq1113) cuq1113, .bool fcq1113, .slice adq1113 (List.length ldq1113) cdq1113, .bool bcq1113, .slice ahq1113 (List.length lhq1113) chq1113, .slice apq1113 (List.length lpq1113) cpq1113, .slice aqq1113 (List.length lqq1113) cqq1113, .bool fcq1113, .bool feq1113, .slice arq1113 (List.length lrq1113) crq1113, .slice avq1113 (List.length lvq1113) cvq1113, .bool bcq1113, .bool beq1113] 66, .vec ahq1113 chq1113 1 (bys lhq1113) 5, .vec apq1113 cpq1113 1 (bys lpq1113) 5, .vec aqq1113 cqq1113 1 (bys lqq1113) 5, .vec arq1113 crq1113 1 (bys lrq1113) 5, .vec avq1113 cvq1113 1 (bys lvq1113) 5, .vec nhq1153 mhq1153 1 (bys lhq1113) 5, .vec npq1153 mpq1153 1 (bys lpq1113) 5, .vec nqq1153 mqq1153 1 (bys lqq1113) 5, .vec nrq1153 mrq1153 1 (bys lrq1113) 5, .vec nvq1153 mvq1153 1 (bys lvq1113) 5, .vec auq1113 cuq1113 1 (bys luq1113) 5, .vec adq1113 cdq1113 1 (bys ldq1113) 5, .box bk1 [.slice a_sa (List.length sa) c_sa, .slice a_sba (List.length sba) c_sba, .slice a_sbb (List.length sbb) c_sbb, .bool sbc, .bool sbd, .slice a_sca (List.length sca) c_sca, .slice a_scb (List.length scb) c_scb, .bool scc, .bool scd] 26, .vec (cutAt ao160 cp161 (List.length scb) 1) (cp161 - (List.length scb)) 1 (bys (List.drop (List.length scb) (sa ++ sba))) 5] → G 6 #[true, true, true, true, true, true, true, true, true, true, true, true, true, true, false, false, true, true, false, false, false, false] ac wo := by
          intro ac1256 wo1257 nhq1153 npq1153 nqq1153 nrq1153 nvq1153 mhq1153 mpq1153 mqq1153 mrq1153 mvq1153 En1258 Hv1259
          refine any_from hG ?_
          refine any_pureR (d := some 70) En1258 (v := .agg #[.slice nrq1153 (List.length lrq1113) mrq1153, .slice nvq1153 (List.length lvq1113) mvq1153, .bool bcq1113, .bool beq1113]) 14 (by kernel_rfl) (by kernel_rfl) rfl ?_
          intro ac1260 En1261
          refine any_pureR (d := some 71) En1261 (v := .bool beq1113) 15 (by kernel_rfl) (by kernel_rfl) rfl ?_
          intro ac1262 En1263
          refine any_at 18 (by kernel_rfl) rfl ?_
          refine op_loadbox (d := some 74) (t := 4) (b := bk1) (off := 3) (k := 13) (v := .bool sbc) En1263 (by kernel_rfl) Hv1259 rfl rfl (by kernel_rfl) ?_
          intro ac1264 En1265
          refine any_pureR (d := some 75) En1265 (v := .bool (beq1113 == sbc)) 19 (by kernel_rfl) (by kernel_rfl) rfl ?_
          intro ac1266 En1267
          rw [show (beq1113 == sbc) = true from (by rw [beq_iff_eq]; exact hbe)] at En1267
          refine any_pureR (d := some 76) En1267 (v := .bool true) 20 (by kernel_rfl) (by kernel_rfl) rfl ?_
          intro ac1268 En1269
          refine any_pureR (d := some 4) En1269 (v := .bool true) 21 (by kernel_rfl) (by kernel_rfl) rfl ?_
          intro ac1270 En1271
          exact any_end (by kernel_rfl) ⟨En1271.sub (by kernel_rfl), Hv1259.pick [0, 1, 2, 3, 4, 5, 11, 12, 13, 14] (by kernel_rfl) (by decide)⟩
        have nd1272 : ∀ (ac : Act) (wo : World), Env ac 77 [(1, .slice none 0 0), (2, .pointer (some ⟨bk1, 0, none⟩)), (4, .bool false), (6, .pointer (some ⟨bq18, 0, none⟩)), (8, .slice (cutAt ao160 cp161 (List.length scb) 1) (List.length (List.drop (List.length scb) (sa ++ sba))) (cp161 - (List.length scb))), (67, .bool true), (68, .pointer (some ⟨bq18, 0, none⟩)), (74, .bool sbc)] → Ev w [] wo [.box bq18 [.slice auq1113 (List.length luq1113) cuq1113, .bool fcq1113, .slice adq1113 (List.length ldq1113) cdq1113, .bool bcq1113, .slice ahq1113 (List.length lhq1113) chq1113, .slice apq1113 (List.length lpq1113) cpq1113, .slice aqq1113 (List.length lqq1113) cqq1113, .bool fcq1113, .bool feq1113, .slice arq1113 (List.length lrq1113) crq1113, .slice avq1113 (List.length lvq1113) cvq1113, .bool bcq1113, .bool beq1113] 66, .vec auq1113 cuq1113 1 (bys luq1113) 5, .vec adq1113 cdq1113 1 (bys ldq1113) 5, .vec ahq1113 chq1113 1 (bys lhq1113) 5, .vec apq1113 cpq1113 1 (bys lpq1113) 5, .vec aqq1113 cqq1113 1 (bys lqq1113) 5, .vec arq1113 crq1113 1 (bys lrq1113) 5, .vec avq1113 cvq1113 1 (bys lvq1113) 5, .box bk1 [.slice a_sa (List.length sa) c_sa, .slice a_sba (List.length sba) c_sba, .slice a_sbb (List.length sbb) c_sbb, .bool sbc, .bool sbd, .slice a_sca (List.length sca) c_sca, .slice a_scb (List.length scb) c_scb, .bool scc, .bool scd] 26, .vec (cutAt ao160 cp161 (List.length scb) 1) (cp161 - (List.length scb)) 1 (bys (List.drop (List.length scb) (sa ++ sba))) 5] → G 6 #[true, true, true, true, true, true, true, true, true, true, true, true, true, false, false, false, true, true, true, false, false, false] ac wo := by
          intro ac1273 wo1274 En1275 Hv1276
          refine any_from hG ?_
          refine any_at 13 (by kernel_rfl) rfl ?_
          have hM1278 : Heap wo1274 [.box bq18 [.slice auq1113 (List.length luq1113) cuq1113, .bool fcq1113, .slice adq1113 (List.length ldq1113) cdq1113, .bool bcq1113, .slice ahq1113 (List.length lhq1113) chq1113, .slice apq1113 (List.length lpq1113) cpq1113, .slice aqq1113 (List.length lqq1113) cqq1113, .bool fcq1113, .bool feq1113, .slice arq1113 (List.length lrq1113) crq1113, .slice avq1113 (List.length lvq1113) cvq1113, .bool bcq1113, .bool beq1113] 66, .vec ahq1113 chq1113 1 (bys lhq1113) 5, .vec apq1113 cpq1113 1 (bys lpq1113) 5, .vec aqq1113 cqq1113 1 (bys lqq1113) 5, .vec arq1113 crq1113 1 (bys lrq1113) 5, .vec avq1113 cvq1113 1 (bys lvq1113) 5] := Hv1276.heap.pick [0, 3, 4, 5, 6, 7] (by kernel_rfl) (by decide)
          refine op_call (d := some 69) (f := 26) (args := #[.pointer (some ⟨bq18, 0, none⟩)]) En1275 (by kernel_rfl) ((story_go _ bq18 auq1113 adq1113 ahq1113 apq1113 aqq1113 arq1113 avq1113 cuq1113 cdq1113 chq1113 cpq1113 cqq1113 crq1113 cvq1113 luq1113 ldq1113 lhq1113 lpq1113 lqq1113 lrq1113 lvq1113 fcq1113 feq1113 bcq1113 beq1113 hM1278 (by omega)).mono ?_)
          rintro _ wo1280 ⟨nhq1277, npq1277, nqq1277, nrq1277, nvq1277, mhq1277, mpq1277, mqq1277, mrq1277, mvq1277, rfl, he1283⟩
          refine ⟨_, rfl, ?_⟩
          intro ac1279 En1281
          have Hv1282 : Ev w [] wo1280 [.box bq18 [.slice auq1113 (List.length luq1113) cuq1113, .bool fcq1113, .slice adq1113 (List.length ldq1113) cdq1113, .bool bcq1113, .slice ahq1113 (List.length lhq1113) chq1113, .slice apq1113 (List.length lpq1113) cpq1113, .slice aqq1113 (List.length lqq1113) cqq1113, .bool fcq1113, .bool feq1113, .slice arq1113 (List.length lrq1113) crq1113, .slice avq1113 (List.length lvq1113) cvq1113, .bool bcq1113, .bool beq1113] 66, .vec ahq1113 chq1113 1 (bys lhq1113) 5, .vec apq1113 cpq1113 1 (bys lpq1113) 5, .vec aqq1113 cqq1113 1 (bys lqq1113) 5, .vec arq1113 crq1113 1 (bys lrq1113) 5, .vec avq1113 cvq1113 1 (bys lvq1113) 5, .vec nhq1277 mhq1277 1 (bys lhq1113) 5, .vec npq1277 mpq1277 1 (bys lpq1113) 5, .vec nqq1277 mqq1277 1 (bys lqq1113) 5, .vec nrq1277 mrq1277 1 (bys lrq1113) 5, .vec nvq1277 mvq1277 1 (bys lvq1113) 5, .vec auq1113 cuq1113 1 (bys luq1113) 5, .vec adq1113 cdq1113 1 (bys ldq1113) 5, .box bk1 [.slice a_sa (List.length sa) c_sa, .slice a_sba (List.length sba) c_sba, .slice a_sbb (List.length sbb) c_sbb, .bool sbc, .bool sbd, .slice a_sca (List.length sca) c_sca, .slice a_scb (List.length scb) c_scb, .bool scc, .bool scd] 26, .vec (cutAt ao160 cp161 (List.length scb) 1) (cp161 - (List.length scb)) 1 (bys (List.drop (List.length scb) (sa ++ sba))) 5] := Hv1276.trans (Ev.call (R := [.vec auq1113 cuq1113 1 (bys luq1113) 5, .vec adq1113 cdq1113 1 (bys ldq1113) 5, .box bk1 [.slice a_sa (List.length sa) c_sa, .slice a_sba (List.length sba) c_sba, .slice a_sbb (List.length sbb) c_sbb, .bool sbc, .bool sbd, .slice a_sca (List.length sca) c_sca, .slice a_scb (List.length scb) c_scb, .bool scc, .bool scd] 26, .vec (cutAt ao160 cp161 (List.length scb) 1) (cp161 - (List.length scb)) 1 (bys (List.drop (List.length scb) (sa ++ sba))) 5]) Hv1276.heap [0, 3, 4, 5, 6, 7, 1, 2, 8, 9] (by kernel_rfl) (by decide) he1283)
          clear hM1278 he1283
          refine any_pureR (d := some 70) En1281 (v := .agg #[.slice nrq1277 (List.length lrq1113) mrq1277, .slice nvq1277 (List.length lvq1113) mvq1277, .bool bcq1113, .bool beq1113]) 14 (by kernel_rfl) (by kernel_rfl) rfl ?_
          intro ac1284 En1285
          refine any_pureR (d := some 71) En1285 (v := .bool beq1113) 15 (by kernel_rfl) (by kernel_rfl) rfl ?_
          intro ac1286 En1287
          refine any_pureR (d := some 75) En1287 (v := .bool (beq1113 == sbc)) 19 (by kernel_rfl) (by kernel_rfl) rfl ?_
          intro ac1288 En1289
          rw [show (beq1113 == sbc) = true from (by rw [beq_iff_eq]; exact hbe)] at En1289
          refine any_pureR (d := some 76) En1289 (v := .bool true) 20 (by kernel_rfl) (by kernel_rfl) rfl ?_
          intro ac1290 En1291
          refine any_pureR (d := some 4) En1291 (v := .bool true) 21 (by kernel_rfl) (by kernel_rfl) rfl ?_
          intro ac1292 En1293
          exact any_end (by kernel_rfl) ⟨En1293.sub (by kernel_rfl), Hv1282.pick [0, 1, 2, 3, 4, 5, 11, 12, 13, 14] (by kernel_rfl) (by decide)⟩
        have nd1294 : ∀ (ac : Act) (wo : World), Env ac 77 [(1, .slice none 0 0), (2, .pointer (some ⟨bk1, 0, none⟩)), (4, .bool false), (6, .pointer (some ⟨bq18, 0, none⟩)), (8, .slice (cutAt ao160 cp161 (List.length scb) 1) (List.length (List.drop (List.length scb) (sa ++ sba))) (cp161 - (List.length scb))), (57, .bool true), (59, .string (bstr loq1113)), (61, .string (bstr (List.drop (List.length scb) (sa ++ sba)))), (62, .slice none 0 0)] → Ev w [] wo [.box bq18 [.slice auq1113 (List.length luq1113) cuq1113, .bool fcq1113, .slice adq1113 (List.length ldq1113) cdq1113, .bool bcq1113, .slice ahq1113 (List.length lhq1113) chq1113, .slice apq1113 (List.length lpq1113) cpq1113, .slice aqq1113 (List.length lqq1113) cqq1113, .bool fcq1113, .bool feq1113, .slice arq1113 (List.length lrq1113) crq1113, .slice avq1113 (List.length lvq1113) cvq1113, .bool bcq1113, .bool beq1113] 66, .vec auq1113 cuq1113 1 (bys luq1113) 5, .vec adq1113 cdq1113 1 (bys ldq1113) 5, .vec ahq1113 chq1113 1 (bys lhq1113) 5, .vec apq1113 cpq1113 1 (bys lpq1113) 5, .vec aqq1113 cqq1113 1 (bys lqq1113) 5, .vec arq1113 crq1113 1 (bys lrq1113) 5, .vec avq1113 cvq1113 1 (bys lvq1113) 5, .box bk1 [.slice a_sa (List.length sa) c_sa, .slice a_sba (List.length sba) c_sba, .slice a_sbb (List.length sbb) c_sbb, .bool sbc, .bool sbd, .slice a_sca (List.length sca) c_sca, .slice a_scb (List.length scb) c_scb, .bool scc, .bool scd] 26, .vec (cutAt ao160 cp161 (List.length scb) 1) (cp161 - (List.length scb)) 1 (bys (List.drop (List.length scb) (sa ++ sba))) 5] → G 15 #[true, true, true, true, true, true, true, false, false, false, false, false, false, false, false, false, false, false, false, false, false, false] ac wo := by
          intro ac1295 wo1296 En1297 Hv1298
          refine any_from hG ?_
          refine any_at 7 (by kernel_rfl) rfl ?_
          refine op_str (d := some 63) (src := 22) (dst := 9) (e := 5) (ao := none) (cap := 0) (p := 0) (bs := []) En1297 (by kernel_rfl) rfl (by kernel_rfl) (by kernel_rfl) (by kernel_rfl) (rfl : bys [] = []) (fun _ => rfl) ?_
          intro ac1299 En1300
          refine any_pure (d := some 64) (s := nv (Op.stringOp .add (bstr (List.drop (List.length scb) (sa ++ sba))) (bstr []))) En1300 (v := .string (bstr ((List.drop (List.length scb) (sa ++ sba)) ++ []))) 8 (by kernel_rfl) (funext fun _ => run_nv (Go.Dbr.run_add_str (List.drop (List.length scb) (sa ++ sba)) [] (by simp; omega) _)) (by kernel_rfl) rfl ?_
          intro ac1301 En1302
          refine any_pureR (d := some 65) En1302 (v := .bool (ByteArray.toList (bstr loq1113) == ByteArray.toList (bstr ((List.drop (List.length scb) (sa ++ sba)) ++ [])))) 9 (by kernel_rfl) (by kernel_rfl) rfl ?_
          intro ac1303 En1304
          rw [Go.Dbr.bstr_eq loq1113 ((List.drop (List.length scb) (sa ++ sba)) ++ []), show (loq1113 == ((List.drop (List.length scb) (sa ++ sba)) ++ [])) = true from (by rw [beq_iff_eq]; exact hout)] at En1304
          refine any_pureR (d := some 66) En1304 (v := .bool true) 10 (by kernel_rfl) (by kernel_rfl) rfl ?_
          intro ac1305 En1306
          refine any_pureR (d := some 67) En1306 (v := .bool true) 11 (by kernel_rfl) (by kernel_rfl) rfl ?_
          intro ac1307 En1308
          refine any_pureR (d := some 68) En1308 (v := .pointer (some ⟨bq18, 0, none⟩)) 12 (by kernel_rfl) (by kernel_rfl) rfl ?_
          intro ac1309 En1310
          refine any_pureR (d := some 72) En1310 (v := .pointer (some ⟨bk1, 1, none⟩)) 16 (by kernel_rfl) (by kernel_rfl) rfl ?_
          intro ac1311 En1312
          refine any_pureR (d := some 73) En1312 (v := .pointer (some ⟨bk1, 3, none⟩)) 17 (by kernel_rfl) (by kernel_rfl) rfl ?_
          intro ac1313 En1314
          refine any_two 13 18 (by kernel_rfl) ?_ ?_
          · rintro _ rfl
            have hM1316 : Heap wo1296 [.box bq18 [.slice auq1113 (List.length luq1113) cuq1113, .bool fcq1113, .slice adq1113 (List.length ldq1113) cdq1113, .bool bcq1113, .slice ahq1113 (List.length lhq1113) chq1113, .slice apq1113 (List.length lpq1113) cpq1113, .slice aqq1113 (List.length lqq1113) cqq1113, .bool fcq1113, .bool feq1113, .slice arq1113 (List.length lrq1113) crq1113, .slice avq1113 (List.length lvq1113) cvq1113, .bool bcq1113, .bool beq1113] 66, .vec ahq1113 chq1113 1 (bys lhq1113) 5, .vec apq1113 cpq1113 1 (bys lpq1113) 5, .vec aqq1113 cqq1113 1 (bys lqq1113) 5, .vec arq1113 crq1113 1 (bys lrq1113) 5, .vec avq1113 cvq1113 1 (bys lvq1113) 5] := Hv1298.heap.pick [0, 3, 4, 5, 6, 7] (by kernel_rfl) (by decide)
            refine op_call (d := some 69) (f := 26) (args := #[.pointer (some ⟨bq18, 0, none⟩)]) En1314 (by kernel_rfl) ((story_go _ bq18 auq1113 adq1113 ahq1113 apq1113 aqq1113 arq1113 avq1113 cuq1113 cdq1113 chq1113 cpq1113 cqq1113 crq1113 cvq1113 luq1113 ldq1113 lhq1113 lpq1113 lqq1113 lrq1113 lvq1113 fcq1113 feq1113 bcq1113 beq1113 hM1316 (by omega)).mono ?_)
            rintro _ wo1318 ⟨nhq1315, npq1315, nqq1315, nrq1315, nvq1315, mhq1315, mpq1315, mqq1315, mrq1315, mvq1315, rfl, he1321⟩
            refine ⟨_, rfl, ?_⟩
            intro ac1317 En1319
            have Hv1320 : Ev w [] wo1318 [.box bq18 [.slice auq1113 (List.length luq1113) cuq1113, .bool fcq1113, .slice adq1113 (List.length ldq1113) cdq1113, .bool bcq1113, .slice ahq1113 (List.length lhq1113) chq1113, .slice apq1113 (List.length lpq1113) cpq1113, .slice aqq1113 (List.length lqq1113) cqq1113, .bool fcq1113, .bool feq1113, .slice arq1113 (List.length lrq1113) crq1113, .slice avq1113 (List.length lvq1113) cvq1113, .bool bcq1113, .bool beq1113] 66, .vec ahq1113 chq1113 1 (bys lhq1113) 5, .vec apq1113 cpq1113 1 (bys lpq1113) 5, .vec aqq1113 cqq1113 1 (bys lqq1113) 5, .vec arq1113 crq1113 1 (bys lrq1113) 5, .vec avq1113 cvq1113 1 (bys lvq1113) 5, .vec nhq1315 mhq1315 1 (bys lhq1113) 5, .vec npq1315 mpq1315 1 (bys lpq1113) 5, .vec nqq1315 mqq1315 1 (bys lqq1113) 5, .vec nrq1315 mrq1315 1 (bys lrq1113) 5, .vec nvq1315 mvq1315 1 (bys lvq1113) 5, .vec auq1113 cuq1113 1 (bys luq1113) 5, .vec adq1113 cdq1113 1 (bys ldq1113) 5, .box bk1 [.slice a_sa (List.length sa) c_sa, .slice a_sba (List.length sba) c_sba, .slice a_sbb (List.length sbb) c_sbb, .bool sbc, .bool sbd, .slice a_sca (List.length sca) c_sca, .slice a_scb (List.length scb) c_scb, .bool scc, .bool scd] 26, .vec (cutAt ao160 cp161 (List.length scb) 1) (cp161 - (List.length scb)) 1 (bys (List.drop (List.length scb) (sa ++ sba))) 5] := Hv1298.trans (Ev.call (R := [.vec auq1113 cuq1113 1 (bys luq1113) 5, .vec adq1113 cdq1113 1 (bys ldq1113) 5, .box bk1 [.slice a_sa (List.length sa) c_sa, .slice a_sba (List.length sba) c_sba, .slice a_sbb (List.length sbb) c_sbb, .bool sbc, .bool sbd, .slice a_sca (List.length sca) c_sca, .slice a_scb (List.length scb) c_scb, .bool scc, .bool scd] 26, .vec (cutAt ao160 cp161 (List.length scb) 1) (cp161 - (List.length scb)) 1 (bys (List.drop (List.length scb) (sa ++ sba))) 5]) Hv1298.heap [0, 3, 4, 5, 6, 7, 1, 2, 8, 9] (by kernel_rfl) (by decide) he1321)
            clear hM1316 he1321
            exact any_to hG (by kernel_rfl) (nd1255 _ _ nhq1315 npq1315 nqq1315 nrq1315 nvq1315 mhq1315 mpq1315 mqq1315 mrq1315 mvq1315 (En1319.sub (by kernel_rfl)) (Hv1320.pick [0, 1, 2, 3, 4, 5, 6, 7, 8, 9, 10, 11, 12, 13, 14] (by kernel_rfl) (by decide)))
          · rintro _ rfl
            refine op_loadbox (d := some 74) (t := 4) (b := bk1) (off := 3) (k := 8) (v := .bool sbc) En1314 (by kernel_rfl) Hv1298 rfl rfl (by kernel_rfl) ?_
            intro ac1322 En1323
            exact any_to hG (by kernel_rfl) (nd1272 _ _ (En1323.sub (by kernel_rfl)) (Hv1298.pick [0, 1, 2, 3, 4, 5, 6, 7, 8, 9] (by kernel_rfl) (by decide)))
        have nd1324 : ∀ (ac : Act) (wo : World), Env ac 77 [(1, .slice none 0 0), (2, .pointer (some ⟨bk1, 0, none⟩)), (4, .bool false), (6, .pointer (some ⟨bq18, 0, none⟩)), (8, .slice (cutAt ao160 cp161 (List.length scb) 1) (List.length (List.drop (List.length scb) (sa ++ sba))) (cp161 - (List.length scb))), (57, .bool true), (59, .string (bstr loq1113)), (60, .slice (cutAt ao160 cp161 (List.length scb) 1) (List.length (List.drop (List.length scb) (sa ++ sba))) (cp161 - (List.length scb))), (63, .string (bstr []))] → Ev w [] wo [.box bq18 [.slice auq1113 (List.length luq1113) cuq1113, .bool fcq1113, .slice adq1113 (List.length ldq1113) cdq1113, .bool bcq1113, .slice ahq1113 (List.length lhq1113) chq1113, .slice apq1113 (List.length lpq1113) cpq1113, .slice aqq1113 (List.length lqq1113) cqq1113, .bool fcq1113, .bool feq1113, .slice arq1113 (List.length lrq1113) crq1113, .slice avq1113 (List.length lvq1113) cvq1113, .bool bcq1113, .bool beq1113] 66, .vec auq1113 cuq1113 1 (bys luq1113) 5, .vec adq1113 cdq1113 1 (bys ldq1113) 5, .vec ahq1113 chq1113 1 (bys lhq1113) 5, .vec apq1113 cpq1113 1 (bys lpq1113) 5, .vec aqq1113 cqq1113 1 (bys lqq1113) 5, .vec arq1113 crq1113 1 (bys lrq1113) 5, .vec avq1113 cvq1113 1 (bys lvq1113) 5, .box bk1 [.slice a_sa (List.length sa) c_sa, .slice a_sba (List.length sba) c_sba, .slice a_sbb (List.length sbb) c_sbb, .bool sbc, .bool sbd, .slice a_sca (List.length sca) c_sca, .slice a_scb (List.length scb) c_scb, .bool scc, .bool scd] 26, .vec (cutAt ao160 cp161 (List.length scb) 1) (cp161 - (List.length scb)) 1 (bys (List.drop (List.length scb) (sa ++ sba))) 5] → G 15 #[true, true, true, true, true, false, true, true, false, false, false, false, false, false, false, false, false, false, false, false, false, false] ac wo := by
          intro ac1325 wo1326 En1327 Hv1328
          refine any_from hG ?_
          refine any_at 5 (by kernel_rfl) rfl ?_
          refine op_str (d := some 61) (src := 22) (dst := 9) (e := 5) (ao := cutAt ao160 cp161 (List.length scb) 1) (cap := cp161 - (List.length scb)) (p := List.length (List.drop (List.length scb) (sa ++ sba))) (bs := List.drop (List.length scb) (sa ++ sba)) En1327 (by kernel_rfl) rfl (by kernel_rfl) (by kernel_rfl) (by kernel_rfl) (Hv1328.heap.reads (k := 9) rfl) (bys_vnz Hv1328.heap (k := 9) rfl) ?_
          intro ac1329 En1330
          refine any_pure (d := some 64) (s := nv (Op.stringOp .add (bstr (List.drop (List.length scb) (sa ++ sba))) (bstr []))) En1330 (v := .string (bstr ((List.drop (List.length scb) (sa ++ sba)) ++ []))) 8 (by kernel_rfl) (funext fun _ => run_nv (Go.Dbr.run_add_str (List.drop (List.length scb) (sa ++ sba)) [] (by simp; omega) _)) (by kernel_rfl) rfl ?_
          intro ac1331 En1332
          refine any_pureR (d := some 65) En1332 (v := .bool (ByteArray.toList (bstr loq1113) == ByteArray.toList (bstr ((List.drop (List.length scb) (sa ++ sba)) ++ [])))) 9 (by kernel_rfl) (by kernel_rfl) rfl ?_
          intro ac1333 En1334
          rw [Go.Dbr.bstr_eq loq1113 ((List.drop (List.length scb) (sa ++ sba)) ++ []), show (loq1113 == ((List.drop (List.length scb) (sa ++ sba)) ++ [])) = true from (by rw [beq_iff_eq]; exact hout)] at En1334
          refine any_pureR (d := some 66) En1334 (v := .bool true) 10 (by kernel_rfl) (by kernel_rfl) rfl ?_
          intro ac1335 En1336
          refine any_pureR (d := some 67) En1336 (v := .bool true) 11 (by kernel_rfl) (by kernel_rfl) rfl ?_
          intro ac1337 En1338
          refine any_pureR (d := some 68) En1338 (v := .pointer (some ⟨bq18, 0, none⟩)) 12 (by kernel_rfl) (by kernel_rfl) rfl ?_
          intro ac1339 En1340
          refine any_pureR (d := some 72) En1340 (v := .pointer (some ⟨bk1, 1, none⟩)) 16 (by kernel_rfl) (by kernel_rfl) rfl ?_
          intro ac1341 En1342
          refine any_pureR (d := some 73) En1342 (v := .pointer (some ⟨bk1, 3, none⟩)) 17 (by kernel_rfl) (by kernel_rfl) rfl ?_
          intro ac1343 En1344
          refine any_two 13 18 (by kernel_rfl) ?_ ?_
          · rintro _ rfl
            have hM1346 : Heap wo1326 [.box bq18 [.slice auq1113 (List.length luq1113) cuq1113, .bool fcq1113, .slice adq1113 (List.length ldq1113) cdq1113, .bool bcq1113, .slice ahq1113 (List.length lhq1113) chq1113, .slice apq1113 (List.length lpq1113) cpq1113, .slice aqq1113 (List.length lqq1113) cqq1113, .bool fcq1113, .bool feq1113, .slice arq1113 (List.length lrq1113) crq1113, .slice avq1113 (List.length lvq1113) cvq1113, .bool bcq1113, .bool beq1113] 66, .vec ahq1113 chq1113 1 (bys lhq1113) 5, .vec apq1113 cpq1113 1 (bys lpq1113) 5, .vec aqq1113 cqq1113 1 (bys lqq1113) 5, .vec arq1113 crq1113 1 (bys lrq1113) 5, .vec avq1113 cvq1113 1 (bys lvq1113) 5] := Hv1328.heap.pick [0, 3, 4, 5, 6, 7] (by kernel_rfl) (by decide)
            refine op_call (d := some 69) (f := 26) (args := #[.pointer (some ⟨bq18, 0, none⟩)]) En1344 (by kernel_rfl) ((story_go _ bq18 auq1113 adq1113 ahq1113 apq1113 aqq1113 arq1113 avq1113 cuq1113 cdq1113 chq1113 cpq1113 cqq1113 crq1113 cvq1113 luq1113 ldq1113 lhq1113 lpq1113 lqq1113 lrq1113 lvq1113 fcq1113 feq1113 bcq1113 beq1113 hM1346 (by omega)).mono ?_)
            rintro _ wo1348 ⟨nhq1345, npq1345, nqq1345, nrq1345, nvq1345, mhq1345, mpq1345, mqq1345, mrq1345, mvq1345, rfl, he1351⟩
            refine ⟨_, rfl, ?_⟩
            intro ac1347 En1349
            have Hv1350 : Ev w [] wo1348 [.box bq18 [.slice auq1113 (List.length luq1113) cuq1113, .bool fcq1113, .slice adq1113 (List.length ldq1113) cdq1113, .bool bcq1113, .slice ahq1113 (List.length lhq1113) chq1113, .slice apq1113 (List.length lpq1113) cpq1113, .slice aqq1113 (List.length lqq1113) cqq1113, .bool fcq1113, .bool feq1113, .slice arq1113 (List.length lrq1113) crq1113, .slice avq1113 (List.length lvq1113) cvq1113, .bool bcq1113, .bool beq1113] 66, .vec ahq1113 chq1113 1 (bys lhq1113) 5, .vec apq1113 cpq1113 1 (bys lpq1113) 5, .vec aqq1113 cqq1113 1 (bys lqq1113) 5, .vec arq1113 crq1113 1 (bys lrq1113) 5, .vec avq1113 cvq1113 1 (bys lvq1113) 5, .vec nhq1345 mhq1345 1 (bys lhq1113) 5, .vec npq1345 mpq1345 1 (bys lpq1113) 5, .vec nqq1345 mqq1345 1 (bys lqq1113) 5, .vec nrq1345 mrq1345 1 (bys lrq1113) 5, .vec nvq1345 mvq1345 1 (bys lvq1113) 5, .vec auq1113 cuq1113 1 (bys luq1113) 5, .vec adq1113 cdq1113 1 (bys ldq1113) 5, .box bk1 [.slice a_sa (List.length sa) c_sa, .slice a_sba (List.length sba) c_sba, .slice a_sbb (List.length sbb) c_sbb, .bool sbc, .bool sbd, .slice a_sca (List.length sca) c_sca, .slice a_scb (List.length scb) c_scb, .bool scc, .bool scd] 26, .vec (cutAt ao160 cp161 (List.length scb) 1) (cp161 - (List.length scb)) 1 (bys (List.drop (List.length scb) (sa ++ sba))) 5] := Hv1328.trans (Ev.call (R := [.vec auq1113 cuq1113 1 (bys luq1113) 5, .vec adq1113 cdq1113 1 (bys ldq1113) 5, .box bk1 [.slice a_sa (List.length sa) c_sa, .slice a_sba (List.length sba) c_sba, .slice a_sbb (List.length sbb) c_sbb, .bool sbc, .bool sbd, .slice a_sca (List.length sca) c_sca, .slice a_scb (List.length scb) c_scb, .bool scc, .bool scd] 26, .vec (cutAt ao160 cp161 (List.length scb) 1) (cp161 - (List.length scb)) 1 (bys (List.drop (List.length scb) (sa ++ sba))) 5]) Hv1328.heap [0, 3, 4, 5, 6, 7, 1, 2, 8, 9] (by kernel_rfl) (by decide) he1351)
            clear hM1346 he1351
            exact any_to hG (by kernel_rfl) (nd1255 _ _ nhq1345 npq1345 nqq1345 nrq1345 nvq1345 mhq1345 mpq1345 mqq1345 mrq1345 mvq1345 (En1349.sub (by kernel_rfl)) (Hv1350.pick [0, 1, 2, 3, 4, 5, 6, 7, 8, 9, 10, 11, 12, 13, 14] (by kernel_rfl) (by decide)))
          · rintro _ rfl
            refine op_loadbox (d := some 74) (t := 4) (b := bk1) (off := 3) (k := 8) (v := .bool sbc) En1344 (by kernel_rfl) Hv1328 rfl rfl (by kernel_rfl) ?_
            intro ac1352 En1353
            exact any_to hG (by kernel_rfl) (nd1272 _ _ (En1353.sub (by kernel_rfl)) (Hv1328.pick [0, 1, 2, 3, 4, 5, 6, 7, 8, 9] (by kernel_rfl) (by decide)))
        have nd1354 : ∀ (ac : Act) (wo : World), Env ac 77 [(1, .slice none 0 0), (2, .pointer (some ⟨bk1, 0, none⟩)), (4, .bool false), (6, .pointer (some ⟨bq18, 0, none⟩)), (8, .slice (cutAt ao160 cp161 (List.length scb) 1) (List.length (List.drop (List.length scb) (sa ++ sba))) (cp161 - (List.length scb))), (57, .bool true), (58, .slice aoq1113 (List.length loq1113) coq1113), (61, .string (bstr (List.drop (List.length scb) (sa ++ sba)))), (63, .string (bstr []))] → Ev w [] wo [.box bq18 [.slice auq1113 (List.length luq1113) cuq1113, .bool fcq1113, .slice adq1113 (List.length ldq1113) cdq1113, .bool bcq1113, .slice ahq1113 (List.length lhq1113) chq1113, .slice apq1113 (List.length lpq1113) cpq1113, .slice aqq1113 (List.length lqq1113) cqq1113, .bool fcq1113, .bool feq1113, .slice arq1113 (List.length lrq1113) crq1113, .slice avq1113 (List.length lvq1113) cvq1113, .bool bcq1113, .bool beq1113] 66, .vec auq1113 cuq1113 1 (bys luq1113) 5, .vec adq1113 cdq1113 1 (bys ldq1113) 5, .vec ahq1113 chq1113 1 (bys lhq1113) 5, .vec apq1113 cpq1113 1 (bys lpq1113) 5, .vec aqq1113 cqq1113 1 (bys lqq1113) 5, .vec arq1113 crq1113 1 (bys lrq1113) 5, .vec avq1113 cvq1113 1 (bys lvq1113) 5, .vec aoq1113 coq1113 1 (bys loq1113) 5, .box bk1 [.slice a_sa (List.length sa) c_sa, .slice a_sba (List.length sba) c_sba, .slice a_sbb (List.length sbb) c_sbb, .bool sbc, .bool sbd, .slice a_sca (List.length sca) c_sca, .slice a_scb (List.length scb) c_scb, .bool scc, .bool scd] 26, .vec (cutAt ao160 cp161 (List.length scb) 1) (cp161 - (List.length scb)) 1 (bys (List.drop (List.length scb) (sa ++ sba))) 5] → G 15 #[true, true, true, false, true, true, true, true, false, false, false, false, false, false, false, false, false, false, false, false, false, false] ac wo := by
          intro ac1355 wo1356 En1357 Hv1358
          refine any_from hG ?_
          refine any_pure (d := some 64) (s := nv (Op.stringOp .add (bstr (List.drop (List.length scb) (sa ++ sba))) (bstr []))) En1357 (v := .string (bstr ((List.drop (List.length scb) (sa ++ sba)) ++ []))) 8 (by kernel_rfl) (funext fun _ => run_nv (Go.Dbr.run_add_str (List.drop (List.length scb) (sa ++ sba)) [] (by simp; omega) _)) (by kernel_rfl) rfl ?_
          intro ac1359 En1360
          refine any_at 3 (by kernel_rfl) rfl ?_
          refine op_str (d := some 59) (src := 22) (dst := 9) (e := 5) (ao := aoq1113) (cap := coq1113) (p := List.length loq1113) (bs := loq1113) En1360 (by kernel_rfl) rfl (by kernel_rfl) (by kernel_rfl) (by kernel_rfl) (Hv1358.heap.reads (k := 8) rfl) (bys_vnz Hv1358.heap (k := 8) rfl) ?_
          intro ac1361 En1362
          refine any_pureR (d := some 65) En1362 (v := .bool (ByteArray.toList (bstr loq1113) == ByteArray.toList (bstr ((List.drop (List.length scb) (sa ++ sba)) ++ [])))) 9 (by kernel_rfl) (by kernel_rfl) rfl ?_
          intro ac1363 En1364
          rw [Go.Dbr.bstr_eq loq1113 ((List.drop (List.length scb) (sa ++ sba)) ++ []), show (loq1113 == ((List.drop (List.length scb) (sa ++ sba)) ++ [])) = true from (by rw [beq_iff_eq]; exact hout)] at En1364
          refine any_pureR (d := some 66) En1364 (v := .bool true) 10 (by kernel_rfl) (by kernel_rfl) rfl ?_
          intro ac1365 En1366
          refine any_pureR (d := some 67) En1366 (v := .bool true) 11 (by kernel_rfl) (by kernel_rfl) rfl ?_
          intro ac1367 En1368
          refine any_pureR (d := some 68) En1368 (v := .pointer (some ⟨bq18, 0, none⟩)) 12 (by kernel_rfl) (by kernel_rfl) rfl ?_
          intro ac1369 En1370
          refine any_pureR (d := some 72) En1370 (v := .pointer (some ⟨bk1, 1, none⟩)) 16 (by kernel_rfl) (by kernel_rfl) rfl ?_
          intro ac1371 En1372
          refine any_pureR (d := some 73) En1372 (v := .pointer (some ⟨bk1, 3, none⟩)) 17 (by kernel_rfl) (by kernel_rfl) rfl ?_
          intro ac1373 En1374
          refine any_two 13 18 (by kernel_rfl) ?_ ?_
          · rintro _ rfl
            have hM1376 : Heap wo1356 [.box bq18 [.slice auq1113 (List.length luq1113) cuq1113, .bool fcq1113, .slice adq1113 (List.length ldq1113) cdq1113, .bool bcq1113, .slice ahq1113 (List.length lhq1113) chq1113, .slice apq1113 (List.length lpq1113) cpq1113, .slice aqq1113 (List.length lqq1113) cqq1113, .bool fcq1113, .bool feq1113, .slice arq1113 (List.length lrq1113) crq1113, .slice avq1113 (List.length lvq1113) cvq1113, .bool bcq1113, .bool beq1113] 66, .vec ahq1113 chq1113 1 (bys lhq1113) 5, .vec apq1113 cpq1113 1 (bys lpq1113) 5, .vec aqq1113 cqq1113 1 (bys lqq1113) 5, .vec arq1113 crq1113 1 (bys lrq1113) 5, .vec avq1113 cvq1113 1 (bys lvq1113) 5] := Hv1358.heap.pick [0, 3, 4, 5, 6, 7] (by kernel_rfl) (by decide)
            refine op_call (d := some 69) (f := 26) (args := #[.pointer (some ⟨bq18, 0, none⟩)]) En1374 (by kernel_rfl) ((story_go _ bq18 auq1113 adq1113 ahq1113 apq1113 aqq1113 arq1113 avq1113 cuq1113 cdq1113 chq1113 cpq1113 cqq1113 crq1113 cvq1113 luq1113 ldq1113 lhq1113 lpq1113 lqq1113 lrq1113 lvq1113 fcq1113 feq1113 bcq1113 beq1113 hM1376 (by omega)).mono ?_)
            rintro _ wo1378 ⟨nhq1375, npq1375, nqq1375, nrq1375, nvq1375, mhq1375, mpq1375, mqq1375, mrq1375, mvq1375, rfl, he1381⟩
            refine ⟨_, rfl, ?_⟩
            intro ac1377 En1379
            have Hv1380 : Ev w [] wo1378 [.box bq18 [.slice auq1113 (List.length luq1113) cuq1113, .bool fcq1113, .slice adq1113 (List.length ldq1113) cdq1113, .bool bcq1113, .slice ahq1113 (List.length lhq1113) chq1113, .slice apq1113 (List.length lpq1113) cpq1113, .slice aqq1113 (List.length lqq1113) cqq1113, .bool fcq1113, .bool feq1113, .slice arq1113 (List.length lrq1113) crq1113, .slice avq1113 (List.length lvq1113) cvq1113, .bool bcq1113, .bool beq1113] 66, .vec ahq1113 chq1113 1 (bys lhq1113) 5, .vec apq1113 cpq1113 1 (bys lpq1113) 5, .vec aqq1113 cqq1113 1 (bys lqq1113) 5, .vec arq1113 crq1113 1 (bys lrq1113) 5, .vec avq1113 cvq1113 1 (bys lvq1113) 5, .vec nhq1375 mhq1375 1 (bys lhq1113) 5, .vec npq1375 mpq1375 1 (bys lpq1113) 5, .vec nqq1375 mqq1375 1 (bys lqq1113) 5, .vec nrq1375 mrq1375 1 (bys lrq1113) 5, .vec nvq1375 mvq1375 1 (bys lvq1113) 5, .vec auq1113 cuq1113 1 (bys luq1113) 5, .vec adq1113 cdq1113 1 (bys ldq1113) 5, .vec aoq1113 coq1113 1 (bys loq1113) 5, .box bk1 [.slice a_sa (List.length sa) c_sa, .slice a_sba (List.length sba) c_sba, .slice a_sbb (List.length sbb) c_sbb, .bool sbc, .bool sbd, .slice a_sca (List.length sca) c_sca, .slice a_scb (List.length scb) c_scb, .bool scc, .bool scd] 26, .vec (cutAt ao160 cp161 (List.length scb) 1) (cp161 - (List.length scb)) 1 (bys (List.drop (List.length scb) (sa ++ sba))) 5] := Hv1358.trans (Ev.call (R := [.vec auq1113 cuq1113 1 (bys luq1113) 5, .vec adq1113 cdq1113 1 (bys ldq1113) 5, .vec aoq1113 coq1113 1 (bys loq1113) 5, .box bk1 [.slice a_sa (List.length sa) c_sa, .slice a_sba (List.length sba) c_sba, .slice a_sbb (List.length sbb) c_sbb, .bool sbc, .bool sbd, .slice a_sca (List.length sca) c_sca, .slice a_scb (List.length scb) c_scb, .bool scc, .bool scd] 26, .vec (cutAt ao160 cp161 (List.length scb) 1) (cp161 - (List.length scb)) 1 (bys (List.drop (List.length scb) (sa ++ sba))) 5]) Hv1358.heap [0, 3, 4, 5, 6, 7, 1, 2, 8, 9, 10] (by kernel_rfl) (by decide) he1381)
            clear hM1376 he1381
            exact any_to hG (by kernel_rfl) (nd1255 _ _ nhq1375 npq1375 nqq1375 nrq1375 nvq1375 mhq1375 mpq1375 mqq1375 mrq1375 mvq1375 (En1379.sub (by kernel_rfl)) (Hv1380.pick [0, 1, 2, 3, 4, 5, 6, 7, 8, 9, 10, 11, 12, 14, 15] (by kernel_rfl) (by decide)))
          · rintro _ rfl
            refine op_loadbox (d := some 74) (t := 4) (b := bk1) (off := 3) (k := 9) (v := .bool sbc) En1374 (by kernel_rfl) Hv1358 rfl rfl (by kernel_rfl) ?_
            intro ac1382 En1383
            exact any_to hG (by kernel_rfl) (nd1272 _ _ (En1383.sub (by kernel_rfl)) (Hv1358.pick [0, 1, 2, 3, 4, 5, 6, 7, 9, 10] (by kernel_rfl) (by decide)))
        have nd1384 : ∀ (ac : Act) (wo : World), Env ac 77 [(1, .slice none 0 0), (2, .pointer (some ⟨bk1, 0, none⟩)), (4, .bool false), (6, .pointer (some ⟨bq18, 0, none⟩)), (8, .slice (cutAt ao160 cp161 (List.length scb) 1) (List.length (List.drop (List.length scb) (sa ++ sba))) (cp161 - (List.length scb))), (57, .bool true), (59, .string (bstr loq1113)), (60, .slice (cutAt ao160 cp161 (List.length scb) 1) (List.length (List.drop (List.length scb) (sa ++ sba))) (cp161 - (List.length scb))), (62, .slice none 0 0)] → Ev w [] wo [.box bq18 [.slice auq1113 (List.length luq1113) cuq1113, .bool fcq1113, .slice adq1113 (List.length ldq1113) cdq1113, .bool bcq1113, .slice ahq1113 (List.length lhq1113) chq1113, .slice apq1113 (List.length lpq1113) cpq1113, .slice aqq1113 (List.length lqq1113) cqq1113, .bool fcq1113, .bool feq1113, .slice arq1113 (List.length lrq1113) crq1113, .slice avq1113 (List.length lvq1113) cvq1113, .bool bcq1113, .bool beq1113] 66, .vec auq1113 cuq1113 1 (bys luq1113) 5, .vec adq1113 cdq1113 1 (bys ldq1113) 5, .vec ahq1113 chq1113 1 (bys lhq1113) 5, .vec apq1113 cpq1113 1 (bys lpq1113) 5, .vec aqq1113 cqq1113 1 (bys lqq1113) 5, .vec arq1113 crq1113 1 (bys lrq1113) 5, .vec avq1113 cvq1113 1 (bys lvq1113) 5, .box bk1 [.slice a_sa (List.length sa) c_sa, .slice a_sba (List.length sba) c_sba, .slice a_sbb (List.length sbb) c_sbb, .bool sbc, .bool sbd, .slice a_sca (List.length sca) c_sca, .slice a_scb (List.length scb) c_scb, .bool scc, .bool scd] 26, .vec (cutAt ao160 cp161 (List.length scb) 1) (cp161 - (List.length scb)) 1 (bys (List.drop (List.length scb) (sa ++ sba))) 5] → G 16 #[true, true, true, true, true, false, true, false, false, false, false, false, false, false, false, false, false, false, false, false, false, false] ac wo := by
          intro ac1385 wo1386 En1387 Hv1388
          refine any_from hG ?_
          refine any_two 5 7 (by kernel_rfl) ?_ ?_
          · rintro _ rfl
            refine op_str (d := some 61) (src := 22) (dst := 9) (e := 5) (ao := cutAt ao160 cp161 (List.length scb) 1) (cap := cp161 - (List.length scb)) (p := List.length (List.drop (List.length scb) (sa ++ sba))) (bs := List.drop (List.length scb) (sa ++ sba)) En1387 (by kernel_rfl) rfl (by kernel_rfl) (by kernel_rfl) (by kernel_rfl) (Hv1388.heap.reads (k := 9) rfl) (bys_vnz Hv1388.heap (k := 9) rfl) ?_
            intro ac1389 En1390
            exact any_to hG (by kernel_rfl) (nd1294 _ _ (En1390.sub (by kernel_rfl)) (Hv1388.pick [0, 1, 2, 3, 4, 5, 6, 7, 8, 9] (by kernel_rfl) (by decide)))
          · rintro _ rfl
            refine op_str (d := some 63) (src := 22) (dst := 9) (e := 5) (ao := none) (cap := 0) (p := 0) (bs := []) En1387 (by kernel_rfl) rfl (by kernel_rfl) (by kernel_rfl) (by kernel_rfl) (rfl : bys [] = []) (fun _ => rfl) ?_
            intro ac1391 En1392
            exact any_to hG (by kernel_rfl) (nd1324 _ _ (En1392.sub (by kernel_rfl)) (Hv1388.pick [0, 1, 2, 3, 4, 5, 6, 7, 8, 9] (by kernel_rfl) (by decide)))
        have nd1393 : ∀ (ac : Act) (wo : World), Env ac 77 [(1, .slice none 0 0), (2, .pointer (some ⟨bk1, 0, none⟩)), (4, .bool false), (6, .pointer (some ⟨bq18, 0, none⟩)), (8, .slice (cutAt ao160 cp161 (List.length scb) 1) (List.length (List.drop (List.length scb) (sa ++ sba))) (cp161 - (List.length scb))), (57, .bool true), (58, .slice aoq1113 (List.length loq1113) coq1113), (61, .string (bstr (List.drop (List.length scb) (sa ++ sba)))), (62, .slice none 0 0)] → Ev w [] wo [.box bq18 [.slice auq1113 (List.length luq1113) cuq1113, .bool fcq1113, .slice adq1113 (List.length ldq1113) cdq1113, .bool bcq1113, .slice ahq1113 (List.length lhq1113) chq1113, .slice apq1113 (List.length lpq1113) cpq1113, .slice aqq1113 (List.length lqq1113) cqq1113, .bool fcq1113, .bool feq1113, .slice arq1113 (List.length lrq1113) crq1113, .slice avq1113 (List.length lvq1113) cvq1113, .bool bcq1113, .bool beq1113] 66, .vec auq1113 cuq1113 1 (bys luq1113) 5, .vec adq1113 cdq1113 1 (bys ldq1113) 5, .vec ahq1113 chq1113 1 (bys lhq1113) 5, .vec apq1113 cpq1113 1 (bys lpq1113) 5, .vec aqq1113 cqq1113 1 (bys lqq1113) 5, .vec arq1113 crq1113 1 (bys lrq1113) 5, .vec avq1113 cvq1113 1 (bys lvq1113) 5, .vec aoq1113 coq1113 1 (bys loq1113) 5, .box bk1 [.slice a_sa (List.length sa) c_sa, .slice a_sba (List.length sba) c_sba, .slice a_sbb (List.length sbb) c_sbb, .bool sbc, .bool sbd, .slice a_sca (List.length sca) c_sca, .slice a_scb (List.length scb) c_scb, .bool scc, .bool scd] 26, .vec (cutAt ao160 cp161 (List.length scb) 1) (cp161 - (List.length scb)) 1 (bys (List.drop (List.length scb) (sa ++ sba))) 5] → G 16 #[true, true, true, false, true, true, true, false, false, false, false, false, false, false, false, false, false, false, false, false, false, false] ac wo := by
          intro ac1394 wo1395 En1396 Hv1397
          refine any_from hG ?_
          refine any_two 3 7 (by kernel_rfl) ?_ ?_
          · rintro _ rfl
            refine op_str (d := some 59) (src := 22) (dst := 9) (e := 5) (ao := aoq1113) (cap := coq1113) (p := List.length loq1113) (bs := loq1113) En1396 (by kernel_rfl) rfl (by kernel_rfl) (by kernel_rfl) (by kernel_rfl) (Hv1397.heap.reads (k := 8) rfl) (bys_vnz Hv1397.heap (k := 8) rfl) ?_
            intro ac1398 En1399
            exact any_to hG (by kernel_rfl) (nd1294 _ _ (En1399.sub (by kernel_rfl)) (Hv1397.pick [0, 1, 2, 3, 4, 5, 6, 7, 9, 10] (by kernel_rfl) (by decide)))
          · rintro _ rfl
            refine op_str (d := some 63) (src := 22) (dst := 9) (e := 5) (ao := none) (cap := 0) (p := 0) (bs := []) En1396 (by kernel_rfl) rfl (by kernel_rfl) (by kernel_rfl) (by kernel_rfl) (rfl : bys [] = []) (fun _ => rfl) ?_
            intro ac1400 En1401
            exact any_to hG (by kernel_rfl) (nd1354 _ _ (En1401.sub (by kernel_rfl)) (Hv1397.pick [0, 1, 2, 3, 4, 5, 6, 7, 8, 9, 10] (by kernel_rfl) (by decide)))
        have nd1402 : ∀ (ac : Act) (wo : World), Env ac 77 [(1, .slice none 0 0), (2, .pointer (some ⟨bk1, 0, none⟩)), (4, .bool false), (6, .pointer (some ⟨bq18, 0, none⟩)), (8, .slice (cutAt ao160 cp161 (List.length scb) 1) (List.length (List.drop (List.length scb) (sa ++ sba))) (cp161 - (List.length scb))), (57, .bool true), (58, .slice aoq1113 (List.length loq1113) coq1113), (60, .slice (cutAt ao160 cp161 (List.length scb) 1) (List.length (List.drop (List.length scb) (sa ++ sba))) (cp161 - (List.length scb))), (63, .string (bstr []))] → Ev w [] wo [.box bq18 [.slice auq1113 (List.length luq1113) cuq1113, .bool fcq1113, .slice adq1113 (List.length ldq1113) cdq1113, .bool bcq1113, .slice ahq1113 (List.length lhq1113) chq1113, .slice apq1113 (List.length lpq1113) cpq1113, .slice aqq1113 (List.length lqq1113) cqq1113, .bool fcq1113, .bool feq1113, .slice arq1113 (List.length lrq1113) crq1113, .slice avq1113 (List.length lvq1113) cvq1113, .bool bcq1113, .bool beq1113] 66, .vec auq1113 cuq1113 1 (bys luq1113) 5, .vec adq1113 cdq1113 1 (bys ldq1113) 5, .vec ahq1113 chq1113 1 (bys lhq1113) 5, .vec apq1113 cpq1113 1 (bys lpq1113) 5, .vec aqq1113 cqq1113 1 (bys lqq1113) 5, .vec arq1113 crq1113 1 (bys lrq1113) 5, .vec avq1113 cvq1113 1 (bys lvq1113) 5, .vec aoq1113 coq1113 1 (bys loq1113) 5, .box bk1 [.slice a_sa (List.length sa) c_sa, .slice a_sba (List.length sba) c_sba, .slice a_sbb (List.length sbb) c_sbb, .bool sbc, .bool sbd, .slice a_sca (List.length sca) c_sca, .slice a_scb (List.length scb) c_scb, .bool scc, .bool scd] 26, .vec (cutAt ao160 cp161 (List.length scb) 1) (cp161 - (List.length scb)) 1 (bys (List.drop (List.length scb) (sa ++ sba))) 5] → G 16 #[true, true, true, false, true, false, true, true, false, false, false, false, false, false, false, false, false, false, false, false, false, false] ac wo := by
          intro ac1403 wo1404 En1405 Hv1406
          refine any_from hG ?_
          refine any_two 3 5 (by kernel_rfl) ?_ ?_
          · rintro _ rfl
            refine op_str (d := some 59) (src := 22) (dst := 9) (e := 5) (ao := aoq1113) (cap := coq1113) (p := List.length loq1113) (bs := loq1113) En1405 (by kernel_rfl) rfl (by kernel_rfl) (by kernel_rfl) (by kernel_rfl) (Hv1406.heap.reads (k := 8) rfl) (bys_vnz Hv1406.heap (k := 8) rfl) ?_
            intro ac1407 En1408
            exact any_to hG (by kernel_rfl) (nd1324 _ _ (En1408.sub (by kernel_rfl)) (Hv1406.pick [0, 1, 2, 3, 4, 5, 6, 7, 9, 10] (by kernel_rfl) (by decide)))
          · rintro _ rfl
            refine op_str (d := some 61) (src := 22) (dst := 9) (e := 5) (ao := cutAt ao160 cp161 (List.length scb) 1) (cap := cp161 - (List.length scb)) (p := List.length (List.drop (List.length scb) (sa ++ sba))) (bs := List.drop (List.length scb) (sa ++ sba)) En1405 (by kernel_rfl) rfl (by kernel_rfl) (by kernel_rfl) (by kernel_rfl) (Hv1406.heap.reads (k := 10) rfl) (bys_vnz Hv1406.heap (k := 10) rfl) ?_
            intro ac1409 En1410
            exact any_to hG (by kernel_rfl) (nd1354 _ _ (En1410.sub (by kernel_rfl)) (Hv1406.pick [0, 1, 2, 3, 4, 5, 6, 7, 8, 9, 10] (by kernel_rfl) (by decide)))
        refine any_from hG ?_
        refine any_pureR (d := some 56) En1121 (v := .bool true) 0 (by kernel_rfl) (by kernel_rfl) rfl ?_
        intro ac1411 En1412
        refine any_pureR (d := some 57) En1412 (v := .bool true) 1 (by kernel_rfl) (by kernel_rfl) rfl ?_
        intro ac1413 En1414
        refine any_pureR (d := some 58) En1414 (v := .slice aoq1113 (List.length loq1113) coq1113) 2 (by kernel_rfl) (by kernel_rfl) rfl ?_
        intro ac1415 En1416
        refine any_pureR (d := some 60) En1416 (v := .slice (cutAt ao160 cp161 (List.length scb) 1) (List.length (List.drop (List.length scb) (sa ++ sba))) (cp161 - (List.length scb))) 4 (by kernel_rfl) (by kernel_rfl) rfl ?_
        intro ac1417 En1418
        refine any_pureR (d := some 62) En1418 (v := .slice none 0 0) 6 (by kernel_rfl) (by kernel_rfl) rfl ?_
        intro ac1419 En1420
        refine any_ways [3, 5, 7] (by kernel_rfl) rfl ?_
        refine ⟨?_, ?_, ?_, trivial⟩
        · rintro _ rfl
          refine op_str (d := some 59) (src := 22) (dst := 9) (e := 5) (ao := aoq1113) (cap := coq1113) (p := List.length loq1113) (bs := loq1113) En1420 (by kernel_rfl) rfl (by kernel_rfl) (by kernel_rfl) (by kernel_rfl) (wo1122.heap.reads (k := 8) rfl) (bys_vnz wo1122.heap (k := 8) rfl) ?_
          intro ac1421 En1422
          exact any_to hG (by kernel_rfl) (nd1384 _ _ (En1422.sub (by kernel_rfl)) (wo1122.pick [0, 1, 2, 3, 4, 5, 6, 7, 9, 10] (by kernel_rfl) (by decide)))
        · rintro _ rfl
          refine op_str (d := some 61) (src := 22) (dst := 9) (e := 5) (ao := cutAt ao160 cp161 (List.length scb) 1) (cap := cp161 - (List.length scb)) (p := List.length (List.drop (List.length scb) (sa ++ sba))) (bs := List.drop (List.length scb) (sa ++ sba)) En1420 (by kernel_rfl) rfl (by kernel_rfl) (by kernel_rfl) (by kernel_rfl) (wo1122.heap.reads (k := 10) rfl) (bys_vnz wo1122.heap (k := 10) rfl) ?_
          intro ac1423 En1424
          exact any_to hG (by kernel_rfl) (nd1393 _ _ (En1424.sub (by kernel_rfl)) (wo1122.pick [0, 1, 2, 3, 4, 5, 6, 7, 8, 9, 10] (by kernel_rfl) (by decide)))
        · rintro _ rfl
          refine op_str (d := some 63) (src := 22) (dst := 9) (e := 5) (ao := none) (cap := 0) (p := 0) (bs := []) En1420 (by kernel_rfl) rfl (by kernel_rfl) (by kernel_rfl) (by kernel_rfl) (rfl : bys [] = []) (fun _ => rfl) ?_
          intro ac1425 En1426
          exact any_to hG (by kernel_rfl) (nd1402 _ _ (En1426.sub (by kernel_rfl)) (wo1122.pick [0, 1, 2, 3, 4, 5, 6, 7, 8, 9, 10] (by kernel_rfl) (by decide)))
      rintro ac1427 wo1428 ⟨En1429, Hv1430⟩
      refine then_normal ?_
      refine wp_ret ?_
      refine d_ret1 (t := 4) (v := .bool true) En1429 (by kernel_rfl) (by kernel_rfl) ?_
      exact ⟨rfl, Hv1430.pick [] (by kernel_rfl) (by decide)⟩
    ·
      replace hc1097 : ¬ (sbc = true) := Bool.eq_false_iff.1 hc1097
      refine wp_skip ?_
      refine then_normal ?_
      refine wp_seq ?_
      refine region_from ?_  -- region 11
      refine d_pures [(1, .slice a_m (List.length m) c_m), (2, .pointer (some ⟨bk1, 0, none⟩)), (4, .bool false), (6, .pointer (some ⟨bq18, 0, none⟩)), (7, .bool true), (8, .slice (cutAt ao160 cp161 (List.length scb) 1) (List.length (List.drop (List.length scb) (sa ++ sba))) (cp161 - (List.length scb))), (45, .pointer (some ⟨bq18, 0, none⟩)), (46, .slice a_m (List.length m) c_m)] [.pointer (some ⟨bq18, 0, none⟩), .slice a_m (List.length m) c_m] 2 En1096 (by kernel_rfl) (by kernel_rfl) rfl ?_
      intro ac1431 En1432
      refine from_op (by kernel_rfl) ?_
      have hM1434 : Heap wo1090 [.box bq18 [.slice auq18 (List.length (List.drop (List.length scb) (sa ++ sba))) cuq18, .bool sbc, .slice adq18 (List.length (List.drop (List.length sbb) sca)) cdq18, .bool scc, .slice ahq18 (List.length sa) chq18, .slice apq18 (List.length sba) cpq18, .slice aqq18 (List.length sbb) cqq18, .bool sbc, .bool sbd, .slice arq18 (List.length sca) crq18, .slice avq18 (List.length scb) cvq18, .bool scc, .bool scd] 66, .vec auq18 cuq18 1 (bys (List.drop (List.length scb) (sa ++ sba))) 5, .vec adq18 cdq18 1 (bys (List.drop (List.length sbb) sca)) 5, .vec ahq18 chq18 1 (bys sa) 5, .vec apq18 cpq18 1 (bys sba) 5, .vec aqq18 cqq18 1 (bys sbb) 5, .vec arq18 crq18 1 (bys sca) 5, .vec avq18 cvq18 1 (bys scb) 5] := Hv1092.heap.pick [0, 6, 7, 1, 2, 3, 4, 5] (by kernel_rfl) (by decide)
      refine op_call (d := some 47) (f := 19) (args := #[.pointer (some ⟨bq18, 0, none⟩), .int .i64 1, .slice a_m (List.length m) c_m]) En1432 (by kernel_rfl) ((xwrite _ bq18 auq18 adq18 ahq18 apq18 aqq18 arq18 avq18 cuq18 cdq18 chq18 cpq18 cqq18 crq18 cvq18 (List.drop (List.length scb) (sa ++ sba)) (List.drop (List.length sbb) sca) sa sba sbb sca scb sbc sbd scc scd a_m (List.length m) c_m m (by first | rfl | (simp; done) | (simp; omega) | omega) ((i_m.ev Hv1092).pick [0, 6, 7, 1, 2, 3, 4, 5] (by kernel_rfl)) 1 hM1434 (by first | omega | (simp; done) | (simp; omega))).mono ?_)
      rintro _ wo1436 ⟨auq1433, adq1433, ahq1433, apq1433, aqq1433, arq1433, avq1433, cuq1433, cdq1433, chq1433, cpq1433, cqq1433, crq1433, cvq1433, luq1433, ldq1433, lhq1433, lpq1433, lqq1433, lrq1433, lvq1433, fcq1433, feq1433, bcq1433, beq1433, rfl, he1439, f_q1433⟩
      refine ⟨_, rfl, ?_⟩
      intro ac1435 En1437
      have Hv1438 : Ev w [] wo1436 [.box bq18 [.slice auq1433 (List.length luq1433) cuq1433, .bool fcq1433, .slice adq1433 (List.length ldq1433) cdq1433, .bool bcq1433, .slice ahq1433 (List.length lhq1433) chq1433, .slice apq1433 (List.length lpq1433) cpq1433, .slice aqq1433 (List.length lqq1433) cqq1433, .bool fcq1433, .bool feq1433, .slice arq1433 (List.length lrq1433) crq1433, .slice avq1433 (List.length lvq1433) cvq1433, .bool bcq1433, .bool beq1433] 66, .vec auq1433 cuq1433 1 (bys luq1433) 5, .vec adq1433 cdq1433 1 (bys ldq1433) 5, .vec ahq1433 chq1433 1 (bys lhq1433) 5, .vec apq1433 cpq1433 1 (bys lpq1433) 5, .vec aqq1433 cqq1433 1 (bys lqq1433) 5, .vec arq1433 crq1433 1 (bys lrq1433) 5, .vec avq1433 cvq1433 1 (bys lvq1433) 5, .box bk1 [.slice a_sa (List.length sa) c_sa, .slice a_sba (List.length sba) c_sba, .slice a_sbb (List.length sbb) c_sbb, .bool sbc, .bool sbd, .slice a_sca (List.length sca) c_sca, .slice a_scb (List.length scb) c_scb, .bool scc, .bool scd] 26, .vec (cutAt ao160 cp161 (List.length scb) 1) (cp161 - (List.length scb)) 1 (bys (List.drop (List.length scb) (sa ++ sba))) 5] := Hv1092.trans (Ev.call (R := [.box bk1 [.slice a_sa (List.length sa) c_sa, .slice a_sba (List.length sba) c_sba, .slice a_sbb (List.length sbb) c_sbb, .bool sbc, .bool sbd, .slice a_sca (List.length sca) c_sca, .slice a_scb (List.length scb) c_scb, .bool scc, .bool scd] 26, .vec (cutAt ao160 cp161 (List.length scb) 1) (cp161 - (List.length scb)) 1 (bys (List.drop (List.length scb) (sa ++ sba))) 5]) Hv1092.heap [0, 6, 7, 1, 2, 3, 4, 5, 8, 9] (by kernel_rfl) (by decide) he1439)
      clear hM1434 he1439
      refine from_end (by kernel_rfl) ?_
      refine then_normal ?_
      refine wp_seq ?_
      refine region_from ?_  -- region 12
      refine d_pures [(1, .slice a_m (List.length m) c_m), (2, .pointer (some ⟨bk1, 0, none⟩)), (4, .bool false), (6, .pointer (some ⟨bq18, 0, none⟩)), (7, .bool true), (8, .slice (cutAt ao160 cp161 (List.length scb) 1) (List.length (List.drop (List.length scb) (sa ++ sba))) (cp161 - (List.length scb))), (48, .pointer (some ⟨bq18, 0, none⟩)), (53, .int .i64 (IntKind.wrap .i64 (((List.length (List.drop (List.length scb) (sa ++ sba)) : Nat) : Int) + ((List.length m : Nat) : Int))))] [.pointer (some ⟨bq18, 0, none⟩), .slice (cutAt ao160 cp161 (List.length scb) 1) (List.length (List.drop (List.length scb) (sa ++ sba))) (cp161 - (List.length scb)), .int .i64 ((List.length (List.drop (List.length scb) (sa ++ sba)) : Nat) : Int), .slice a_m (List.length m) c_m, .int .i64 ((List.length m : Nat) : Int), .int .i64 (IntKind.wrap .i64 (((List.length (List.drop (List.length scb) (sa ++ sba)) : Nat) : Int) + ((List.length m : Nat) : Int)))] 6 En1437 (by kernel_rfl) (by kernel_rfl) rfl ?_
      intro ac1440 En1441
      rw [Go.Dbr.wr64 (e := ((List.length (List.drop (List.length scb) (sa ++ sba)) : Nat) : Int) + ((List.length m : Nat) : Int)) (x := (((List.length (List.drop (List.length scb) (sa ++ sba))) + (List.length m) : Nat) : Int)) (by omega) (by omega) (by omega)] at En1441
      refine d_pures [(1, .slice a_m (List.length m) c_m), (2, .pointer (some ⟨bk1, 0, none⟩)), (4, .bool false), (6, .pointer (some ⟨bq18, 0, none⟩)), (7, .bool true), (8, .slice (cutAt ao160 cp161 (List.length scb) 1) (List.length (List.drop (List.length scb) (sa ++ sba))) (cp161 - (List.length scb))), (48, .pointer (some ⟨bq18, 0, none⟩)), (54, .int .i64 (IntKind.wrap .i64 ((((List.length (List.drop (List.length scb) (sa ++ sba))) + (List.length m) : Nat) : Int) + (5 : Int))))] [.int .i64 (IntKind.wrap .i64 ((((List.length (List.drop (List.length scb) (sa ++ sba))) + (List.length m) : Nat) : Int) + (5 : Int)))] 7 En1441 (by kernel_rfl) (by kernel_rfl) rfl ?_
      intro ac1442 En1443
      rw [Go.Dbr.wr64 (e := (((List.length (List.drop (List.length scb) (sa ++ sba))) + (List.length m) : Nat) : Int) + (5 : Int)) (x := ((((List.length (List.drop (List.length scb) (sa ++ sba))) + (List.length m)) + 5 : Nat) : Int)) (by omega) (by omega) (by omega)] at En1443
      refine from_op (by kernel_rfl) ?_
      have hz1 : Rel.size ((Rel.of sa sba sbb sbc sbd sca scb scc scd).write 1 m) ≤ 2097152 := by have h1 := Rel.size_write (Rel.of sa sba sbb sbc sbd sca scb scc scd) 1 m; have h3 : List.length (m : List UInt8) ≤ 1048576 := (by first | omega | simp); omega
      have hS := Rel.sizes (n := 2097152) (by rw [f_q1433]; exact Rel.ok_write hok _ _) (by rw [f_q1433]; exact hz1)
      have hM1445 : Heap wo1436 [.box bq18 [.slice auq1433 (List.length luq1433) cuq1433, .bool fcq1433, .slice adq1433 (List.length ldq1433) cdq1433, .bool bcq1433, .slice ahq1433 (List.length lhq1433) chq1433, .slice apq1433 (List.length lpq1433) cpq1433, .slice aqq1433 (List.length lqq1433) cqq1433, .bool fcq1433, .bool feq1433, .slice arq1433 (List.length lrq1433) crq1433, .slice avq1433 (List.length lvq1433) cvq1433, .bool bcq1433, .bool beq1433] 66, .vec auq1433 cuq1433 1 (bys luq1433) 5, .vec adq1433 cdq1433 1 (bys ldq1433) 5, .vec ahq1433 chq1433 1 (bys lhq1433) 5, .vec apq1433 cpq1433 1 (bys lpq1433) 5, .vec aqq1433 cqq1433 1 (bys lqq1433) 5, .vec arq1433 crq1433 1 (bys lrq1433) 5, .vec avq1433 cvq1433 1 (bys lvq1433) 5] := Hv1438.heap.pick [0, 1, 2, 3, 4, 5, 6, 7] (by kernel_rfl) (by decide)
      refine op_call (d := some 55) (f := 21) (args := #[.pointer (some ⟨bq18, 0, none⟩), .int .i64 2, .int .i64 ((((List.length (List.drop (List.length scb) (sa ++ sba))) + (List.length m)) + 5 : Nat) : Int)]) En1443 (by kernel_rfl) ((xread _ bq18 auq1433 adq1433 ahq1433 apq1433 aqq1433 arq1433 avq1433 cuq1433 cdq1433 chq1433 cpq1433 cqq1433 crq1433 cvq1433 luq1433 ldq1433 lhq1433 lpq1433 lqq1433 lrq1433 lvq1433 fcq1433 feq1433 bcq1433 beq1433 ((((List.length (List.drop (List.length scb) (sa ++ sba))) + (List.length m)) + 5 : Nat) : Int) 2 hM1445 (by omega)).mono ?_)
      rintro _ wo1447 ⟨auq1444, adq1444, ahq1444, apq1444, aqq1444, arq1444, avq1444, cuq1444, cdq1444, chq1444, cpq1444, cqq1444, crq1444, cvq1444, luq1444, ldq1444, lhq1444, lpq1444, lqq1444, lrq1444, lvq1444, fcq1444, feq1444, bcq1444, beq1444, aoq1444, coq1444, loq1444, rfl, he1450, f_q1444, g_q1444⟩
      refine ⟨_, rfl, ?_⟩
      intro ac1446 En1448
      have Hv1449 : Ev w [] wo1447 [.box bq18 [.slice auq1444 (List.length luq1444) cuq1444, .bool fcq1444, .slice adq1444 (List.length ldq1444) cdq1444, .bool bcq1444, .slice ahq1444 (List.length lhq1444) chq1444, .slice apq1444 (List.length lpq1444) cpq1444, .slice aqq1444 (List.length lqq1444) cqq1444, .bool fcq1444, .bool feq1444, .slice arq1444 (List.length lrq1444) crq1444, .slice avq1444 (List.length lvq1444) cvq1444, .bool bcq1444, .bool beq1444] 66, .vec auq1444 cuq1444 1 (bys luq1444) 5, .vec adq1444 cdq1444 1 (bys ldq1444) 5, .vec ahq1444 chq1444 1 (bys lhq1444) 5, .vec apq1444 cpq1444 1 (bys lpq1444) 5, .vec aqq1444 cqq1444 1 (bys lqq1444) 5, .vec arq1444 crq1444 1 (bys lrq1444) 5, .vec avq1444 cvq1444 1 (bys lvq1444) 5, .vec aoq1444 coq1444 1 (bys loq1444) 5, .box bk1 [.slice a_sa (List.length sa) c_sa, .slice a_sba (List.length sba) c_sba, .slice a_sbb (List.length sbb) c_sbb, .bool sbc, .bool sbd, .slice a_sca (List.length sca) c_sca, .slice a_scb (List.length scb) c_scb, .bool scc, .bool scd] 26, .vec (cutAt ao160 cp161 (List.length scb) 1) (cp161 - (List.length scb)) 1 (bys (List.drop (List.length scb) (sa ++ sba))) 5] := Hv1438.trans (Ev.call (R := [.box bk1 [.slice a_sa (List.length sa) c_sa, .slice a_sba (List.length sba) c_sba, .slice a_sbb (List.length sbb) c_sbb, .bool sbc, .bool sbd, .slice a_sca (List.length sca) c_sca, .slice a_scb (List.length scb) c_scb, .bool scc, .bool scd] 26, .vec (cutAt ao160 cp161 (List.length scb) 1) (cp161 - (List.length scb)) 1 (bys (List.drop (List.length scb) (sa ++ sba))) 5]) Hv1438.heap [0, 1, 2, 3, 4, 5, 6, 7, 8, 9] (by kernel_rfl) (by decide) he1450)
      clear hM1445 he1450
      have hS2 := Rel.sizes (n := 2097152) (by rw [f_q1444, f_q1433]; exact Rel.ok_read (Rel.ok_write hok _ _) _ _) (by rw [f_q1444, f_q1433, Rel.size_read]; exact hz1)
      have hmm : (Rel.of sa sba sbb sbc sbd sca scb scc scd).fc = true → m = [] := fun h => absurd h hc1097
      have hnn : (((Rel.of sa sba sbb sbc sbd sca scb scc scd).up.length + List.length m : Nat) : Int) ≤ ((((List.length (List.drop (List.length scb) (sa ++ sba))) + (List.length m)) + 5 : Nat) : Int) := by simp only [Rel.of, List.length_drop, List.length_append, List.length_nil]; omega
      have hout : loq1444 = (List.drop (List.length scb) (sa ++ sba)) ++ m := by rw [g_q1444, f_q1433]; exact Rel.tail_out _ hmm hnn
      have hbe : beq1444 = sbc := by have h1 := congrArg Rel.be f_q1444; rw [f_q1433] at h1; exact h1.trans (Rel.tail_end hok _ hmm hnn)
      refine d_pures [(1, .slice a_m (List.length m) c_m), (2, .pointer (some ⟨bk1, 0, none⟩)), (4, .bool false), (6, .pointer (some ⟨bq18, 0, none⟩)), (7, .bool true), (8, .slice (cutAt ao160 cp161 (List.length scb) 1) (List.length (List.drop (List.length scb) (sa ++ sba))) (cp161 - (List.length scb))), (9, .slice aoq1444 (List.length loq1444) coq1444)] [.slice aoq1444 (List.length loq1444) coq1444] 9 En1448 (by kernel_rfl) (by kernel_rfl) rfl ?_
      intro ac1451 En1452
      refine from_end (by kernel_rfl) ?_
      refine then_normal ?_
      refine wp_seq ?_
      refine region_cut (F := fun ac wo => Env ac 77 [(1, .slice a_m (List.length m) c_m), (2, .pointer (some ⟨bk1, 0, none⟩)), (4, .bool true), (6, .pointer (some ⟨bq18, 0, none⟩)), (8, .slice (cutAt ao160 cp161 (List.length scb) 1) (List.length (List.drop (List.length scb) (sa ++ sba))) (cp161 - (List.length scb)))] ∧ Ev w [] wo [.box bq18 [.slice auq1444 (List.length luq1444) cuq1444, .bool fcq1444, .slice adq1444 (List.length ldq1444) cdq1444, .bool bcq1444, .slice ahq1444 (List.length lhq1444) chq1444, .slice apq1444 (List.length lpq1444) cpq1444, .slice aqq1444 (List.length lqq1444) cqq1444, .bool fcq1444, .bool feq1444, .slice arq1444 (List.length lrq1444) crq1444, .slice avq1444 (List.length lvq1444) cvq1444, .bool bcq1444, .bool beq1444] 66, .vec ahq1444 chq1444 1 (bys lhq1444) 5, .vec apq1444 cpq1444 1 (bys lpq1444) 5, .vec aqq1444 cqq1444 1 (bys lqq1444) 5, .vec arq1444 crq1444 1 (bys lrq1444) 5, .vec avq1444 cvq1444 1 (bys lvq1444) 5, .vec auq1444 cuq1444 1 (bys luq1444) 5, .vec adq1444 cdq1444 1 (bys ldq1444) 5, .box bk1 [.slice a_sa (List.length sa) c_sa, .slice a_sba (List.length sba) c_sba, .slice a_sbb (List.length sbb) c_sbb, .bool sbc, .bool sbd, .slice a_sca (List.length sca) c_sca, .slice a_scb (List.length scb) c_scb, .bool scc, .bool scd] 26, .vec (cutAt ao160 cp161 (List.length scb) 1) (cp161 - (List.length scb)) 1 (bys (List.drop (List.length scb) (sa ++ sba))) 5]) ?_ ?_
      ·
        refine draw_any (by kernel_rfl) 22 (by kernel_rfl) ?_  -- region 13
        have wo1453 := Hv1449.trans (Ev.drew Hv1449.heap)
        refine any_name fun G hG => ?_
        have nd1586 : ∀ (ac : Act) (wo : World) (nhq1484 : _) (npq1484 : _) (nqq1484 : _) (nrq1484 : _) (nvq1484 : _) (mhq1484 : _) (mpq1484 : _) (mqq1484 : _) (mrq1484 : _) (mvq1484 : _), Env ac 77 [(1, .slice a_m (List.length m) c_m), (2, .pointer (some ⟨bk1, 0, none⟩)), (4, .bool false), (6, .pointer (some ⟨bq18, 0, none⟩)), (8, .slice (cutAt ao160 cp161 (List.length scb) 1) (List.length (List.drop (List.length scb) (sa ++ sba))) (cp161 - (List.length scb))), (67, .bool true), (69, .agg #[.slice nhq1484 (List.length lhq1444) mhq1484, .slice npq1484 (List.length lpq1444) mpq1484, .slice nqq1484 (List.length lqq1444) mqq1484, .bool fcq1444, .bool feq1444, .slice nrq1484 (List.length lrq1444) mrq1484, .slice nvq1484 (List.length lvq1444) mvq1484, .bool bcq1444, .bool beq1444]), (73, .pointer (some ⟨bk1, 3, none⟩))] → Ev w [] wo [.box bq18 [.slice auq1444 (List.length luq1444) cuq1444, .bool fcq1444, .slice adq1444 (List.length ldq1444) cdq1444, .bool bcq1444, .slice ahq1444 (List.length lhq1444) chq1444, .slice apq1444 (List.length lpq1444) cpq1444, .slice aqq1444 (List.length lqq1444) cqq1444, .bool fcq1444, .bool feq1444, .slice arq1444 (List.length lrq1444) crq1444, .slice avq1444 (List.length lvq1444) cvq1444, .bool bcq1444, .bool beq1444] 66, .vec ahq1444 chq1444 1 (bys lhq1444) 5, .vec apq1444 cpq1444 1 (bys lpq1444) 5, .vec aqq1444 cqq1444 1 (bys lqq1444) 5, .vec arq1444 crq1444 1 (bys lrq1444) 5, .vec avq1444 cvq1444 1 (bys lvq1444) 5, .vec nhq1484 mhq1484 1 (bys lhq1444) 5, .vec npq1484 mpq1484 1 (bys lpq1444) 5, .vec nqq1484 mqq1484 1 (bys lqq1444) 5, .vec nrq1484 mrq1484 1 (bys lrq1444) 5, .vec nvq1484 mvq1484 1 (bys lvq1444) 5, .vec auq1444 cuq1444 1 (bys luq1444) 5, .vec adq1444 cdq1444 1 (bys ldq1444) 5, .box bk1 [.slice a_sa (List.length sa) c_sa, .slice a_sba (List.length sba) c_sba, .slice a_sbb (List.length sbb) c_sbb, .bool sbc, .bool sbd, .slice a_sca (List.length sca) c_sca, .slice a_scb (List.length scb) c_scb, .bool scc, .bool scd] 26, .vec (cutAt ao160 cp161 (List.length scb) 1) (cp161 - (List.length scb)) 1 (bys (List.drop (List.length scb) (sa ++ sba))) 5] → G 6 #[true, true, true, true, true, true, true, true, true, true, true, true, true, true, false, false, true, true, false, false, false, false] ac wo := by
          intro ac1587 wo1588 nhq1484 npq1484 nqq1484 nrq1484 nvq1484 mhq1484 mpq1484 mqq1484 mrq1484 mvq1484 En1589 Hv1590
          refine any_from hG ?_
          refine any_pureR (d := some 70) En1589 (v := .agg #[.slice nrq1484 (List.length lrq1444) mrq1484, .slice nvq1484 (List.length lvq1444) mvq1484, .bool bcq1444, .bool beq1444]) 14 (by kernel_rfl) (by kernel_rfl) rfl ?_
          intro ac1591 En1592
          refine any_pureR (d := some 71) En1592 (v := .bool beq1444) 15 (by kernel_rfl) (by kernel_rfl) rfl ?_
          intro ac1593 En1594
          refine any_at 18 (by kernel_rfl) rfl ?_
          refine op_loadbox (d := some 74) (t := 4) (b := bk1) (off := 3) (k := 13) (v := .bool sbc) En1594 (by kernel_rfl) Hv1590 rfl rfl (by kernel_rfl) ?_
          intro ac1595 En1596
          refine any_pureR (d := some 75) En1596 (v := .bool (beq1444 == sbc)) 19 (by kernel_rfl) (by kernel_rfl) rfl ?_
          intro ac1597 En1598
          rw [show (beq1444 == sbc) = true from (by rw [beq_iff_eq]; exact hbe)] at En1598
          refine any_pureR (d := some 76) En1598 (v := .bool true) 20 (by kernel_rfl) (by kernel_rfl) rfl ?_
          intro ac1599 En1600
          refine any_pureR (d := some 4) En1600 (v := .bool true) 21 (by kernel_rfl) (by kernel_rfl) rfl ?_
          intro ac1601 En1602
          exact any_end (by kernel_rfl) ⟨En1602.sub (by kernel_rfl), Hv1590.pick [0, 1, 2, 3, 4, 5, 11, 12, 13, 14] (by kernel_rfl) (by decide)⟩
        have nd1603 : ∀ (ac : Act) (wo : World), Env ac 77 [(1, .slice a_m (List.length m) c_m), (2, .pointer (some ⟨bk1, 0, none⟩)), (4, .bool false), (6, .pointer (some ⟨bq18, 0, none⟩)), (8, .slice (cutAt ao160 cp161 (List.length scb) 1) (List.length (List.drop (List.length scb) (sa ++ sba))) (cp161 - (List.length scb))), (67, .bool true), (68, .pointer (some ⟨bq18, 0, none⟩)), (74, .bool sbc)] → Ev w [] wo [.box bq18 [.slice auq1444 (List.length luq1444) cuq1444, .bool fcq1444, .slice adq1444 (List.length ldq1444) cdq1444, .bool bcq1444, .slice ahq1444 (List.length lhq1444) chq1444, .slice apq1444 (List.length lpq1444) cpq1444, .slice aqq1444 (List.length lqq1444) cqq1444, .bool fcq1444, .bool feq1444, .slice arq1444 (List.length lrq1444) crq1444, .slice avq1444 (List.length lvq1444) cvq1444, .bool bcq1444, .bool beq1444] 66, .vec auq1444 cuq1444 1 (bys luq1444) 5, .vec adq1444 cdq1444 1 (bys ldq1444) 5, .vec ahq1444 chq1444 1 (bys lhq1444) 5, .vec apq1444 cpq1444 1 (bys lpq1444) 5, .vec aqq1444 cqq1444 1 (bys lqq1444) 5, .vec arq1444 crq1444 1 (bys lrq1444) 5, .vec avq1444 cvq1444 1 (bys lvq1444) 5, .box bk1 [.slice a_sa (List.length sa) c_sa, .slice a_sba (List.length sba) c_sba, .slice a_sbb (List.length sbb) c_sbb, .bool sbc, .bool sbd, .slice a_sca (List.length sca) c_sca, .slice a_scb (List.length scb) c_scb, .bool scc, .bool scd] 26, .vec (cutAt ao160 cp161 (List.length scb) 1) (cp161 - (List.length scb)) 1 (bys (List.drop (List.length scb) (sa ++ sba))) 5] → G 6 #[true, true, true, true, true, true, true, true, true, true, true, true, true, false, false, false, true, true, true, false, false, false] ac wo := by
          intro ac1604 wo1605 En1606 Hv1607
          refine any_from hG ?_
          refine any_at 13 (by kernel_rfl) rfl ?_
          have hM1609 : Heap wo1605 [.box bq18 [.slice auq1444 (List.length luq1444) cuq1444, .bool fcq1444, .slice adq1444 (List.length ldq1444) cdq1444, .bool bcq1444, .slice ahq1444 (List.length lhq1444) chq1444, .slice apq1444 (List.length lpq1444) cpq1444, .slice aqq1444 (List.length lqq1444) cqq1444, .bool fcq1444, .bool feq1444, .slice arq1444 (List.length lrq1444) crq1444, .slice avq1444 (List.length lvq1444) cvq1444, .bool bcq1444, .bool beq1444] 66, .vec ahq1444 chq1444 1 (bys lhq1444) 5, .vec apq1444 cpq1444 1 (bys lpq1444) 5, .vec aqq1444 cqq1444 1 (bys lqq1444) 5, .vec arq1444 crq1444 1 (bys lrq1444) 5, .vec avq1444 cvq1444 1 (bys lvq1444) 5] := Hv1607.heap.pick [0, 3, 4, 5, 6, 7] (by kernel_rfl) (by decide)
          refine op_call (d := some 69) (f := 26) (args := #[.pointer (some ⟨bq18, 0, none⟩)]) En1606 (by kernel_rfl) ((story_go _ bq18 auq1444 adq1444 ahq1444 apq1444 aqq1444 arq1444 avq1444 cuq1444 cdq1444 chq1444 cpq1444 cqq1444 crq1444 cvq1444 luq1444 ldq1444 lhq1444 lpq1444 lqq1444 lrq1444 lvq1444 fcq1444 feq1444 bcq1444 beq1444 hM1609 (by omega)).mono ?_)
          rintro _ wo1611 ⟨nhq1608, npq1608, nqq1608, nrq1608, nvq1608, mhq1608, mpq1608, mqq1608, mrq1608, mvq1608, rfl, he1614⟩
          refine ⟨_, rfl, ?_⟩
          intro ac1610 En1612
          have Hv1613 : Ev w [] wo1611 [.box bq18 [.slice auq1444 (List.length luq1444) cuq1444, .bool fcq1444, .slice adq1444 (List.length ldq1444) cdq1444, .bool bcq1444, .slice ahq1444 (List.length lhq1444) chq1444, .slice apq1444 (List.length lpq1444) cpq1444, .slice aqq1444 (List.length lqq1444) cqq1444, .bool fcq1444, .bool feq1444, .slice arq1444 (List.length lrq1444) crq1444, .slice avq1444 (List.length lvq1444) cvq1444, .bool bcq1444, .bool beq1444] 66, .vec ahq1444 chq1444 1 (bys lhq1444) 5, .vec apq1444 cpq1444 1 (bys lpq1444) 5, .vec aqq1444 cqq1444 1 (bys lqq1444) 5, .vec arq1444 crq1444 1 (bys lrq1444) 5, .vec avq1444 cvq1444 1 (bys lvq1444) 5, .vec nhq1608 mhq1608 1 (bys lhq1444) 5, .vec npq1608 mpq1608 1 (bys lpq1444) 5, .vec nqq1608 mqq1608 1 (bys lqq1444) 5, .vec nrq1608 mrq1608 1 (bys lrq1444) 5, .vec nvq1608 mvq1608 1 (bys lvq1444) 5, .vec auq1444 cuq1444 1 (bys luq1444) 5, .vec adq1444 cdq1444 1 (bys ldq1444) 5, .box bk1 [.slice a_sa (List.length sa) c_sa, .slice a_sba (List.length sba) c_sba, .slice a_sbb (List.length sbb) c_sbb, .bool sbc, .bool sbd, .slice a_sca (List.length sca) c_sca, .slice a_scb (List.length scb) c_scb, .bool scc, .bool scd] 26, .vec (cutAt ao160 cp161 (List.length scb) 1) (cp161 - (List.length scb)) 1 (bys (List.drop (List.length scb) (sa ++ sba))) 5] := Hv1607.trans (Ev.call (R := [.vec auq1444 cuq1444 1 (bys luq1444) 5, .vec adq1444 cdq1444 1 (bys ldq1444) 5, .box bk1 [.slice a_sa (List.length sa) c_sa, .slice a_sba (List.length sba) c_sba, .slice a_sbb (List.length sbb) c_sbb, .bool sbc, .bool sbd, .slice a_sca (List.length sca) c_sca, .slice a_scb (List.length scb) c_scb, .bool scc, .bool scd] 26, .vec (cutAt ao160 cp161 (List.length scb) 1) (cp161 - (List.length scb)) 1 (bys (List.drop (List.length scb) (sa ++ sba))) 5]) Hv1607.heap [0, 3, 4, 5, 6, 7, 1, 2, 8, 9] (by kernel_rfl) (by decide) he1614)
          clear hM1609 he1614
          refine any_pureR (d := some 70) En1612 (v := .agg #[.slice nrq1608 (List.length lrq1444) mrq1608, .slice nvq1608 (List.length lvq1444) mvq1608, .bool bcq1444, .bool beq1444]) 14 (by kernel_rfl) (by kernel_rfl) rfl ?_
          intro ac1615 En1616
          refine any_pureR (d := some 71) En1616 (v := .bool beq1444) 15 (by kernel_rfl) (by kernel_rfl) rfl ?_
          intro ac1617 En1618
          refine any_pureR (d := some 75) En1618 (v := .bool (beq1444 == sbc)) 19 (by kernel_rfl) (by kernel_rfl) rfl ?_
          intro ac1619 En1620
          rw [show (beq1444 == sbc) = true from (by rw [beq_iff_eq]; exact hbe)] at En1620
          refine any_pureR (d := some 76) En1620 (v := .bool true) 20 (by kernel_rfl) (by kernel_rfl) rfl ?_
          intro ac1621 En1622
          refine any_pureR (d := some 4) En1622 (v := .bool true) 21 (by kernel_rfl) (by kernel_rfl) rfl ?_
          intro ac1623 En1624
          exact any_end (by kernel_rfl) ⟨En1624.sub (by kernel_rfl), Hv1613.pick [0, 1, 2, 3, 4, 5, 11, 12, 13, 14] (by kernel_rfl) (by decide)⟩
        have nd1625 : ∀ (ac : Act) (wo : World), Env ac 77 [(1, .slice a_m (List.length m) c_m), (2, .pointer (some ⟨bk1, 0, none⟩)), (4, .bool false), (6, .pointer (some ⟨bq18, 0, none⟩)), (8, .slice (cutAt ao160 cp161 (List.length scb) 1) (List.length (List.drop (List.length scb) (sa ++ sba))) (cp161 - (List.length scb))), (57, .bool true), (59, .string (bstr loq1444)), (61, .string (bstr (List.drop (List.length scb) (sa ++ sba)))), (62, .slice a_m (List.length m) c_m)] → Ev w [] wo [.box bq18 [.slice auq1444 (List.length luq1444) cuq1444, .bool fcq1444, .slice adq1444 (List.length ldq1444) cdq1444, .bool bcq1444, .slice ahq1444 (List.length lhq1444) chq1444, .slice apq1444 (List.length lpq1444) cpq1444, .slice aqq1444 (List.length lqq1444) cqq1444, .bool fcq1444, .bool feq1444, .slice arq1444 (List.length lrq1444) crq1444, .slice avq1444 (List.length lvq1444) cvq1444, .bool bcq1444, .bool beq1444] 66, .vec auq1444 cuq1444 1 (bys luq1444) 5, .vec adq1444 cdq1444 1 (bys ldq1444) 5, .vec ahq1444 chq1444 1 (bys lhq1444) 5, .vec apq1444 cpq1444 1 (bys lpq1444) 5, .vec aqq1444 cqq1444 1 (bys lqq1444) 5, .vec arq1444 crq1444 1 (bys lrq1444) 5, .vec avq1444 cvq1444 1 (bys lvq1444) 5, .box bk1 [.slice a_sa (List.length sa) c_sa, .slice a_sba (List.length sba) c_sba, .slice a_sbb (List.length sbb) c_sbb, .bool sbc, .bool sbd, .slice a_sca (List.length sca) c_sca, .slice a_scb (List.length scb) c_scb, .bool scc, .bool scd] 26, .vec (cutAt ao160 cp161 (List.length scb) 1) (cp161 - (List.length scb)) 1 (bys (List.drop (List.length scb) (sa ++ sba))) 5] → G 15 #[true, true, true, true, true, true, true, false, false, false, false, false, false, false, false, false, false, false, false, false, false, false] ac wo := by
          intro ac1626 wo1627 En1628 Hv1629
          refine any_from hG ?_
          refine any_at 7 (by kernel_rfl) rfl ?_
          refine op_str (d := some 63) (src := 22) (dst := 9) (e := 5) (ao := a_m) (cap := c_m) (p := List.length m) (bs := m) En1628 (by kernel_rfl) rfl (by kernel_rfl) (by kernel_rfl) (by kernel_rfl) (i_m.ev Hv1629).reads i_m.nz ?_
          intro ac1630 En1631
          refine any_pure (d := some 64) (s := nv (Op.stringOp .add (bstr (List.drop (List.length scb) (sa ++ sba))) (bstr m))) En1631 (v := .string (bstr ((List.drop (List.length scb) (sa ++ sba)) ++ m))) 8 (by kernel_rfl) (funext fun _ => run_nv (Go.Dbr.run_add_str (List.drop (List.length scb) (sa ++ sba)) m (by simp; omega) _)) (by kernel_rfl) rfl ?_
          intro ac1632 En1633
          refine any_pureR (d := some 65) En1633 (v := .bool (ByteArray.toList (bstr loq1444) == ByteArray.toList (bstr ((List.drop (List.length scb) (sa ++ sba)) ++ m)))) 9 (by kernel_rfl) (by kernel_rfl) rfl ?_
          intro ac1634 En1635
          rw [Go.Dbr.bstr_eq loq1444 ((List.drop (List.length scb) (sa ++ sba)) ++ m), show (loq1444 == ((List.drop (List.length scb) (sa ++ sba)) ++ m)) = true from (by rw [beq_iff_eq]; exact hout)] at En1635
          refine any_pureR (d := some 66) En1635 (v := .bool true) 10 (by kernel_rfl) (by kernel_rfl) rfl ?_
          intro ac1636 En1637
          refine any_pureR (d := some 67) En1637 (v := .bool true) 11 (by kernel_rfl) (by kernel_rfl) rfl ?_
          intro ac1638 En1639
          refine any_pureR (d := some 68) En1639 (v := .pointer (some ⟨bq18, 0, none⟩)) 12 (by kernel_rfl) (by kernel_rfl) rfl ?_
          intro ac1640 En1641
          refine any_pureR (d := some 72) En1641 (v := .pointer (some ⟨bk1, 1, none⟩)) 16 (by kernel_rfl) (by kernel_rfl) rfl ?_
          intro ac1642 En1643
          refine any_pureR (d := some 73) En1643 (v := .pointer (some ⟨bk1, 3, none⟩)) 17 (by kernel_rfl) (by kernel_rfl) rfl ?_
          intro ac1644 En1645
          refine any_two 13 18 (by kernel_rfl) ?_ ?_
          · rintro _ rfl
            have hM1647 : Heap wo1627 [.box bq18 [.slice auq1444 (List.length luq1444) cuq1444, .bool fcq1444, .slice adq1444 (List.length ldq1444) cdq1444, .bool bcq1444, .slice ahq1444 (List.length lhq1444) chq1444, .slice apq1444 (List.length lpq1444) cpq1444, .slice aqq1444 (List.length lqq1444) cqq1444, .bool fcq1444, .bool feq1444, .slice arq1444 (List.length lrq1444) crq1444, .slice avq1444 (List.length lvq1444) cvq1444, .bool bcq1444, .bool beq1444] 66, .vec ahq1444 chq1444 1 (bys lhq1444) 5, .vec apq1444 cpq1444 1 (bys lpq1444) 5, .vec aqq1444 cqq1444 1 (bys lqq1444) 5, .vec arq1444 crq1444 1 (bys lrq1444) 5, .vec avq1444 cvq1444 1 (bys lvq1444) 5] := Hv1629.heap.pick [0, 3, 4, 5, 6, 7] (by kernel_rfl) (by decide)
            refine op_call (d := some 69) (f := 26) (args := #[.pointer (some ⟨bq18, 0, none⟩)]) En1645 (by kernel_rfl) ((story_go _ bq18 auq1444 adq1444 ahq1444 apq1444 aqq1444 arq1444 avq1444 cuq1444 cdq1444 chq1444 cpq1444 cqq1444 crq1444 cvq1444 luq1444 ldq1444 lhq1444 lpq1444 lqq1444 lrq1444 lvq1444 fcq1444 feq1444 bcq1444 beq1444 hM1647 (by omega)).mono ?_)
            rintro _ wo1649 ⟨nhq1646, npq1646, nqq1646, nrq1646, nvq1646, mhq1646, mpq1646, mqq1646, mrq1646, mvq1646, rfl, he1652⟩
            refine ⟨_, rfl, ?_⟩
            intro ac1648 En1650
            have Hv1651 : Ev w [] wo1649 [.box bq18 [.slice auq1444 (List.length luq1444) cuq1444, .bool fcq1444, .slice adq1444 (List.length ldq1444) cdq1444, .bool bcq1444, .slice ahq1444 (List.length lhq1444) chq1444, .slice apq1444 (List.length lpq1444) cpq1444, .slice aqq1444 (List.length lqq1444) cqq1444, .bool fcq1444, .bool feq1444, .slice arq1444 (List.length lrq1444) crq1444, .slice avq1444 (List.length lvq1444) cvq1444, .bool bcq1444, .bool beq1444] 66, .vec ahq1444 chq1444 1 (bys lhq1444) 5, .vec apq1444 cpq1444 1 (bys lpq1444) 5, .vec aqq1444 cqq1444 1 (bys lqq1444) 5, .vec arq1444 crq1444 1 (bys lrq1444) 5, .vec avq1444 cvq1444 1 (bys lvq1444) 5, .vec nhq1646 mhq1646 1 (bys lhq1444) 5, .vec npq1646 mpq1646 1 (bys lpq1444) 5, .vec nqq1646 mqq1646 1 (bys lqq1444) 5, .vec nrq1646 mrq1646 1 (bys lrq1444) 5, .vec nvq1646 mvq1646 1 (bys lvq1444) 5, .vec auq1444 cuq1444 1 (bys luq1444) 5, .vec adq1444 cdq1444 1 (bys ldq1444) 5, .box bk1 [.slice a_sa (List.length sa) c_sa, .slice a_sba (List.length sba) c_sba, .slice a_sbb (List.length sbb) c_sbb, .bool sbc, .bool sbd, .slice a_sca (List.length sca) c_sca, .slice a_scb (List.length scb) c_scb, .bool scc, .bool scd] 26, .vec (cutAt ao160 cp161 (List.length scb) 1) (cp161 - (List.length scb)) 1 (bys (List.drop (List.length scb) (sa ++ sba))) 5] := Hv1629.trans (Ev.call (R := [.vec auq1444 cuq1444 1 (bys luq1444) 5, .vec adq1444 cdq1444 1 (bys ldq1444) 5, .box bk1 [.slice a_sa (List.length sa) c_sa, .slice a_sba (List.length sba) c_sba, .slice a_sbb (List.length sbb) c_sbb, .bool sbc, .bool sbd, .slice a_sca (List.length sca) c_sca, .slice a_scb (List.length scb) c_scb, .bool scc, .bool scd] 26, .vec (cutAt ao160 cp161 (List.length scb) 1) (cp161 - (List.length scb)) 1 (bys (List.drop (List.length scb) (sa ++ sba))) 5]) Hv1629.heap [0, 3, 4, 5, 6, 7, 1, 2, 8, 9] (by kernel_rfl) (by decide) he1652)
            clear hM1647 he1652
            exact any_to hG (by kernel_rfl) (nd1586 _ _ nhq1646 npq1646 nqq1646 nrq1646 nvq1646 mhq1646 mpq1646 mqq1646 mrq1646 mvq1646 (En1650.sub (by kernel_rfl)) (Hv1651.pick [0, 1, 2, 3, 4, 5, 6, 7, 8, 9, 10, 11, 12, 13, 14] (by kernel_rfl) (by decide)))
          · rintro _ rfl
            refine op_loadbox (d := some 74) (t := 4) (b := bk1) (off := 3) (k := 8) (v := .bool sbc) En1645 (by kernel_rfl) Hv1629 rfl rfl (by kernel_rfl) ?_
            intro ac1653 En1654
            exact any_to hG (by kernel_rfl) (nd1603 _ _ (En1654.sub (by kernel_rfl)) (Hv1629.pick [0, 1, 2, 3, 4, 5, 6, 7, 8, 9] (by kernel_rfl) (by decide)))
        have nd1655 : ∀ (ac : Act) (wo : World), Env ac 77 [(1, .slice a_m (List.length m) c_m), (2, .pointer (some ⟨bk1, 0, none⟩)), (4, .bool false), (6, .pointer (some ⟨bq18, 0, none⟩)), (8, .slice (cutAt ao160 cp161 (List.length scb) 1) (List.length (List.drop (List.length scb) (sa ++ sba))) (cp161 - (List.length scb))), (57, .bool true), (59, .string (bstr loq1444)), (60, .slice (cutAt ao160 cp161 (List.length scb) 1) (List.length (List.drop (List.length scb) (sa ++ sba))) (cp161 - (List.length scb))), (63, .string (bstr m))] → Ev w [] wo [.box bq18 [.slice auq1444 (List.length luq1444) cuq1444, .bool fcq1444, .slice adq1444 (List.length ldq1444) cdq1444, .bool bcq1444, .slice ahq1444 (List.length lhq1444) chq1444, .slice apq1444 (List.length lpq1444) cpq1444, .slice aqq1444 (List.length lqq1444) cqq1444, .bool fcq1444, .bool feq1444, .slice arq1444 (List.length lrq1444) crq1444, .slice avq1444 (List.length lvq1444) cvq1444, .bool bcq1444, .bool beq1444] 66, .vec auq1444 cuq1444 1 (bys luq1444) 5, .vec adq1444 cdq1444 1 (bys ldq1444) 5, .vec ahq1444 chq1444 1 (bys lhq1444) 5, .vec apq1444 cpq1444 1 (bys lpq1444) 5, .vec aqq1444 cqq1444 1 (bys lqq1444) 5, .vec arq1444 crq1444 1 (bys lrq1444) 5, .vec avq1444 cvq1444 1 (bys lvq1444) 5, .box bk1 [.slice a_sa (List.length sa) c_sa, .slice a_sba (List.length sba) c_sba, .slice a_sbb (List.length sbb) c_sbb, .bool sbc, .bool sbd, .slice a_sca (List.length sca) c_sca, .slice a_scb (List.length scb) c_scb, .bool scc, .bool scd] 26, .vec (cutAt ao160 cp161 (List.length scb) 1) (cp161 - (List.length scb)) 1 (bys (List.drop (List.length scb) (sa ++ sba))) 5] → G 15 #[true, true, true, true, true, false, true, true, false, false, false, false, false, false, false, false, false, false, false, false, false, false] ac wo := by
          intro ac1656 wo1657 En1658 Hv1659
          refine any_from hG ?_
          refine any_at 5 (by kernel_rfl) rfl ?_
          refine op_str (d := some 61) (src := 22) (dst := 9) (e := 5) (ao := cutAt ao160 cp161 (List.length scb) 1) (cap := cp161 - (List.length scb)) (p := List.length (List.drop (List.length scb) (sa ++ sba))) (bs := List.drop (List.length scb) (sa ++ sba)) En1658 (by kernel_rfl) rfl (by kernel_rfl) (by kernel_rfl) (by kernel_rfl) (Hv1659.heap.reads (k := 9) rfl) (bys_vnz Hv1659.heap (k := 9) rfl) ?_
          intro ac1660 En1661
          refine any_pure (d := some 64) (s := nv (Op.stringOp .add (bstr (List.drop (List.length scb) (sa ++ sba))) (bstr m))) En1661 (v := .string (bstr ((List.drop (List.length scb) (sa ++ sba)) ++ m))) 8 (by kernel_rfl) (funext fun _ => run_nv (Go.Dbr.run_add_str (List.drop (List.length scb) (sa ++ sba)) m (by simp; omega) _)) (by kernel_rfl) rfl ?_
          intro ac1662 En1663
          refine any_pureR (d := some 65) En1663 (v := .bool (ByteArray.toList (bstr loq1444) == ByteArray.toList (bstr ((List.drop (List.length scb) (sa ++ sba)) ++ m)))) 9 (by kernel_rfl) (by kernel_rfl) rfl ?_
          intro ac1664 En1665
          rw [Go.Dbr.bstr_eq loq1444 ((List.drop (List.length scb) (sa ++ sba)) ++ m), show (loq1444 == ((List.drop (List.length scb) (sa ++ sba)) ++ m)) = true from (by rw [beq_iff_eq]; exact hout)] at En1665
          refine any_pureR (d := some 66) En1665 (v := .bool true) 10 (by kernel_rfl) (by kernel_rfl) rfl ?_
          intro ac1666 En1667
          refine any_pureR (d := some 67) En1667 (v := .bool true) 11 (by kernel_rfl) (by kernel_rfl) rfl ?_
          intro ac1668 En1669
          refine any_pureR (d := some 68) En1669 (v := .pointer (some ⟨bq18, 0, none⟩)) 12 (by kernel_rfl) (by kernel_rfl) rfl ?_
          intro ac1670 En1671
          refine any_pureR (d := some 72) En1671 (v := .pointer (some ⟨bk1, 1, none⟩)) 16 (by kernel_rfl) (by kernel_rfl) rfl ?_
          intro ac1672 En1673
          refine any_pureR (d := some 73) En1673 (v := .pointer (some ⟨bk1, 3, none⟩)) 17 (by kernel_rfl) (by kernel_rfl) rfl ?_
          intro ac1674 En1675
          refine any_two 13 18 (by kernel_rfl) ?_ ?_
          · rintro _ rfl
            have hM1677 : Heap wo1657 [.box bq18 [.slice auq1444 (List.length luq1444) cuq1444, .bool fcq1444, .slice adq1444 (List.length ldq1444) cdq1444, .bool bcq1444, .slice ahq1444 (List.length lhq1444) chq1444, .slice apq1444 (List.length lpq1444) cpq1444, .slice aqq1444 (List.length lqq1444) cqq1444, .bool fcq1444, .bool feq1444, .slice arq1444 (List.length lrq1444) crq1444, .slice avq1444 (List.length lvq1444) cvq1444, .bool bcq1444, .bool beq1444] 66, .vec ahq1444 chq1444 1 (bys lhq1444) 5, .vec apq1444 cpq1444 1 (bys lpq1444) 5, .vec aqq1444 cqq1444 1 (bys lqq1444) 5, .vec arq1444 crq1444 1 (bys lrq1444) 5, .vec avq1444 cvq1444 1 (bys lvq1444) 5] := Hv1659.heap.pick [0, 3, 4, 5, 6, 7] (by kernel_rfl) (by decide)
            refine op_call (d := some 69) (f := 26) (args := #[.pointer (some ⟨bq18, 0, none⟩)]) En1675 (by kernel_rfl) ((story_go _ bq18 auq1444 adq1444 ahq1444 apq1444 aqq1444 arq1444 avq1444 cuq1444 cdq1444 chq1444 cpq1444 cqq1444 crq1444 cvq1444 luq1444 ldq1444 lhq1444 lpq1444 lqq1444 lrq1444 lvq1444 fcq1444 feq1444 bcq1444 beq1444 hM1677 (by omega)).mono ?_)
            rintro _ wo1679 ⟨nhq1676, npq1676, nqq1676, nrq1676, nvq1676, mhq1676, mpq1676, mqq1676, mrq1676, mvq1676, rfl, he1682⟩
            refine ⟨_, rfl, ?_⟩
            intro ac1678 En1680
            have Hv1681 : Ev w [] wo1679 [.box bq18 [.slice auq1444 (List.length luq1444) cuq1444, .bool fcq1444, .slice adq1444 (List.length ldq1444) cdq1444, .bool bcq1444, .slice ahq1444 (List.length lhq1444) chq1444, .slice apq1444 (List.length lpq1444) cpq1444, .slice aqq1444 (List.length lqq1444) cqq1444, .bool fcq1444, .bool feq1444, .slice arq1444 (List.length lrq1444) crq1444, .slice avq1444 (List.length lvq1444) cvq1444, .bool bcq1444, .bool beq1444] 66, .vec ahq1444 chq1444 1 (bys lhq1444) 5, .vec apq1444 cpq1444 1 (bys lpq1444) 5, .vec aqq1444 cqq1444 1 (bys lqq1444) 5, .vec arq1444 crq1444 1 (bys lrq1444) 5, .vec avq1444 cvq1444 1 (bys lvq1444) 5, .vec nhq1676 mhq1676 1 (bys lhq1444) 5, .vec npq1676 mpq1676 1 (bys lpq1444) 5, .vec nqq1676 mqq1676 1 (bys lqq1444) 5, .vec nrq1676 mrq1676 1 (bys lrq1444) 5, .vec nvq1676 mvq1676 1 (bys lvq1444) 5, .vec auq1444 cuq1444 1 (bys luq1444) 5, .vec adq1444 cdq1444 1 (bys ldq1444) 5, .box bk1 [.slice a_sa (List.length sa) c_sa, .slice a_sba (List.length sba) c_sba, .slice a_sbb (List.length sbb) c_sbb, .bool sbc, .bool sbd, .slice a_sca (List.length sca) c_sca, .slice a_scb (List.length scb) c_scb, .bool scc, .bool scd] 26, .vec (cutAt ao160 cp161 (List.length scb) 1) (cp161 - (List.length scb)) 1 (bys (List.drop (List.length scb) (sa ++ sba))) 5] := Hv1659.trans (Ev.call (R := [.vec auq1444 cuq1444 1 (bys luq1444) 5, .vec adq1444 cdq1444 1 (bys ldq1444) 5, .box bk1 [.slice a_sa (List.length sa) c_sa, .slice a_sba (List.length sba) c_sba, .slice a_sbb (List.length sbb) c_sbb, .bool sbc, .bool sbd, .slice a_sca (List.length sca) c_sca, .slice a_scb (List.length scb) c_scb, .bool scc, .bool scd] 26, .vec (cutAt ao160 cp161 (List.length scb) 1) (cp161 - (List.length scb)) 1 (bys (List.drop (List.length scb) (sa ++ sba))) 5]) Hv1659.heap [0, 3, 4, 5, 6, 7, 1, 2, 8, 9] (by kernel_rfl) (by decide) he1682)
            clear hM1677 he1682
            exact any_to hG (by kernel_rfl) (nd1586 _ _ nhq1676 npq1676 nqq1676 nrq1676 nvq1676 mhq1676 mpq1676 mqq1676 mrq1676 mvq1676 (En1680.sub (by kernel_rfl)) (Hv1681.pick [0, 1, 2, 3, 4, 5, 6, 7, 8, 9, 10, 11, 12, 13, 14] (by kernel_rfl) (by decide)))
          · rintro _ rfl
            refine op_loadbox (d := some 74) (t := 4) (b := bk1) (off := 3) (k := 8) (v := .bool sbc) En1675 (by kernel_rfl) Hv1659 rfl rfl (by kernel_rfl) ?_
            intro ac1683 En1684
            exact any_to hG (by kernel_rfl) (nd1603 _ _ (En1684.sub (by kernel_rfl)) (Hv1659.pick [0, 1, 2, 3, 4, 5, 6, 7, 8, 9] (by kernel_rfl) (by decide)))
        have nd1685 : ∀ (ac : Act) (wo : World), Env ac 77 [(1, .slice a_m (List.length m) c_m), (2, .pointer (some ⟨bk1, 0, none⟩)), (4, .bool false), (6, .pointer (some ⟨bq18, 0, none⟩)), (8, .slice (cutAt ao160 cp161 (List.length scb) 1) (List.length (List.drop (List.length scb) (sa ++ sba))) (cp161 - (List.length scb))), (57, .bool true), (58, .slice aoq1444 (List.length loq1444) coq1444), (61, .string (bstr (List.drop (List.length scb) (sa ++ sba)))), (63, .string (bstr m))] → Ev w [] wo [.box bq18 [.slice auq1444 (List.length luq1444) cuq1444, .bool fcq1444, .slice adq1444 (List.length ldq1444) cdq1444, .bool bcq1444, .slice ahq1444 (List.length lhq1444) chq1444, .slice apq1444 (List.length lpq1444) cpq1444, .slice aqq1444 (List.length lqq1444) cqq1444, .bool fcq1444, .bool feq1444, .slice arq1444 (List.length lrq1444) crq1444, .slice avq1444 (List.length lvq1444) cvq1444, .bool bcq1444, .bool beq1444] 66, .vec auq1444 cuq1444 1 (bys luq1444) 5, .vec adq1444 cdq1444 1 (bys ldq1444) 5, .vec ahq1444 chq1444 1 (bys lhq1444) 5, .vec apq1444 cpq1444 1 (bys lpq1444) 5, .vec aqq1444 cqq1444 1 (bys lqq1444) 5, .vec arq1444 crq1444 1 (bys lrq1444) 5, .vec avq1444 cvq1444 1 (bys lvq1444) 5, .vec aoq1444 coq1444 1 (bys loq1444) 5, .box bk1 [.slice a_sa (List.length sa) c_sa, .slice a_sba (List.length sba) c_sba, .slice a_sbb (List.length sbb) c_sbb, .bool sbc, .bool sbd, .slice a_sca (List.length sca) c_sca, .slice a_scb (List.length scb) c_scb, .bool scc, .bool scd] 26, .vec (cutAt ao160 cp161 (List.length scb) 1) (cp161 - (List.length scb)) 1 (bys (List.drop (List.length scb) (sa ++ sba))) 5] → G 15 #[true, true, true, false, true, true, true, true, false, false, false, false, false, false, false, false, false, false, false, false, false, false] ac wo := by
          intro ac1686 wo1687 En1688 Hv1689
          refine any_from hG ?_
          refine any_pure (d := some 64) (s := nv (Op.stringOp .add (bstr (List.drop (List.length scb) (sa ++ sba))) (bstr m))) En1688 (v := .string (bstr ((List.drop (List.length scb) (sa ++ sba)) ++ m))) 8 (by kernel_rfl) (funext fun _ => run_nv (Go.Dbr.run_add_str (List.drop (List.length scb) (sa ++ sba)) m (by simp; omega) _)) (by kernel_rfl) rfl ?_
          intro ac1690 En1691
          refine any_at 3 (by kernel_rfl) rfl ?_
          refine op_str (d := some 59) (src := 22) (dst := 9) (e := 5) (ao := aoq1444) (cap := coq1444) (p := List.length loq1444) (bs := loq1444) En1691 (by kernel_rfl) rfl (by kernel_rfl) (by kernel_rfl) (by kernel_rfl) (Hv1689.heap.reads (k := 8) rfl) (bys_vnz Hv1689.heap (k := 8) rfl) ?_
          intro ac1692 En1693
          refine any_pureR (d := some 65) En1693 (v := .bool (ByteArray.toList (bstr loq1444) == ByteArray.toList (bstr ((List.drop (List.length scb) (sa ++ sba)) ++ m)))) 9 (by kernel_rfl) (by kernel_rfl) rfl ?_
          intro ac1694 En1695
          rw [Go.Dbr.bstr_eq loq1444 ((List.drop (List.length scb) (sa ++ sba)) ++ m), show (loq1444 == ((List.drop (List.length scb) (sa ++ sba)) ++ m)) = true from (by rw [beq_iff_eq]; exact hout)] at En1695
          refine any_pureR (d := some 66) En1695 (v := .bool true) 10 (by kernel_rfl) (by kernel_rfl) rfl ?_
          intro ac1696 En1697
          refine any_pureR (d := some 67) En1697 (v := .bool true) 11 (by kernel_rfl) (by kernel_rfl) rfl ?_
          intro ac1698 En1699
          refine any_pureR (d := some 68) En1699 (v := .pointer (some ⟨bq18, 0, none⟩)) 12 (by kernel_rfl) (by kernel_rfl) rfl ?_
          intro ac1700 En1701
          refine any_pureR (d := some 72) En1701 (v := .pointer (some ⟨bk1, 1, none⟩)) 16 (by kernel_rfl) (by kernel_rfl) rfl ?_
          intro ac1702 En1703
          refine any_pureR (d := some 73) En1703 (v := .pointer (some ⟨bk1, 3, none⟩)) 17 (by kernel_rfl) (by kernel_rfl) rfl ?_
          intro ac1704 En1705
          refine any_two 13 18 (by kernel_rfl) ?_ ?_
          · rintro _ rfl
            have hM1707 : Heap wo1687 [.box bq18 [.slice auq1444 (List.length luq1444) cuq1444, .bool fcq1444, .slice adq1444 (List.length ldq1444) cdq1444, .bool bcq1444, .slice ahq1444 (List.length lhq1444) chq1444, .slice apq1444 (List.length lpq1444) cpq1444, .slice aqq1444 (List.length lqq1444) cqq1444, .bool fcq1444, .bool feq1444, .slice arq1444 (List.length lrq1444) crq1444, .slice avq1444 (List.length lvq1444) cvq1444, .bool bcq1444, .bool beq1444] 66, .vec ahq1444 chq1444 1 (bys lhq1444) 5, .vec apq1444 cpq1444 1 (bys lpq1444) 5, .vec aqq1444 cqq1444 1 (bys lqq1444) 5, .vec arq1444 crq1444 1 (bys lrq1444) 5, .vec avq1444 cvq1444 1 (bys lvq1444) 5] := Hv1689.heap.pick [0, 3, 4, 5, 6, 7] (by kernel_rfl) (by decide)
            refine op_call (d := some 69) (f := 26) (args := #[.pointer (some ⟨bq18, 0, none⟩)]) En1705 (by kernel_rfl) ((story_go _ bq18 auq1444 adq1444 ahq1444 apq1444 aqq1444 arq1444 avq1444 cuq1444 cdq1444 chq1444 cpq1444 cqq1444 crq1444 cvq1444 luq1444 ldq1444 lhq1444 lpq1444 lqq1444 lrq1444 lvq1444 fcq1444 feq1444 bcq1444 beq1444 hM1707 (by omega)).mono ?_)
            rintro _ wo1709 ⟨nhq1706, npq1706, nqq1706, nrq1706, nvq1706, mhq1706, mpq1706, mqq1706, mrq1706, mvq1706, rfl, he1712⟩
            refine ⟨_, rfl, ?_⟩
            intro ac1708 En1710
            have Hv1711 : Ev w [] wo1709 [.box bq18 [.slice auq1444 (List.length luq1444) cuq1444, .bool fcq1444, .slice adq1444 (List.length ldq1444) cdq1444, .bool bcq1444, .slice ahq1444 (List.length lhq1444) chq1444, .slice apq1444 (List.length lpq1444) cpq1444, .slice aqq1444 (List.length lqq1444) cqq1444, .bool fcq1444, .bool feq1444, .slice arq1444 (List.length lrq1444) crq1444, .slice avq1444 (List.length lvq1444) cvq1444, .bool bcq1444, .bool beq1444] 66, .vec ahq1444 chq1444 1 (bys lhq1444) 5, .vec apq1444 cpq1444 1 (bys lpq1444) 5, .vec aqq1444 cqq1444 1 (bys lqq1444) 5, .vec arq1444 crq1444 1 (bys lrq1444) 5, .vec avq1444 cvq1444 1 (bys lvq1444) 5, .vec nhq1706 mhq1706 1 (bys lhq1444) 5, .vec npq1706 mpq1706 1 (bys lpq1444) 5, .vec nqq1706 mqq1706 1 (bys lqq1444) 5, .vec nrq1706 mrq1706 1 (bys lrq1444) 5, .vec nvq1706 mvq1706 1 (bys lvq1444) 5, .vec auq1444 cuq1444 1 (bys luq1444) 5, .vec adq1444 cdq1444 1 (bys ldq1444) 5, .vec aoq1444 coq1444 1 (bys loq1444) 5, .box bk1 [.slice a_sa (List.length sa) c_sa, .slice a_sba (List.length sba) c_sba, .slice a_sbb (List.length sbb) c_sbb, .bool sbc, .bool sbd, .slice a_sca (List.length sca) c_sca, .slice a_scb (List.length scb) c_scb, .bool scc, .bool scd] 26, .vec (cutAt ao160 cp161 (List.length scb) 1) (cp161 - (List.length scb)) 1 (bys (List.drop (List.length scb) (sa ++ sba))) 5] := Hv1689.trans (Ev.call (R := [.vec auq1444 cuq1444 1 (bys luq1444) 5, .vec adq1444 cdq1444 1 (bys ldq1444) 5, .vec aoq1444 coq1444 1 (bys loq1444) 5, .box bk1 [.slice a_sa (List.length sa) c_sa, .slice a_sba (List.length sba) c_sba, .slice a_sbb (List.length sbb) c_sbb, .bool sbc, .bool sbd, .slice a_sca (List.length sca) c_sca, .slice a_scb (List.length scb) c_scb, .bool scc, .bool scd] 26, .vec (cutAt ao160 cp161 (List.length scb) 1) (cp161 - (List.length scb)) 1 (bys (List.drop (List.length scb) (sa ++ sba))) 5]) Hv1689.heap [0, 3, 4, 5, 6, 7, 1, 2, 8, 9, 10] (by kernel_rfl) (by decide) he1712)
            clear hM1707 he1712
            exact any_to hG (by kernel_rfl) (nd1586 _ _ nhq1706 npq1706 nqq1706 nrq1706 nvq1706 mhq1706 mpq1706 mqq1706 mrq1706 mvq1706 (En1710.sub (by kernel_rfl)) (Hv1711.pick [0, 1, 2, 3, 4, 5, 6, 7, 8, 9, 10, 11, 12, 14, 15] (by kernel_rfl) (by decide)))
          · rintro _ rfl
            refine op_loadbox (d := some 74) (t := 4) (b := bk1) (off := 3) (k := 9) (v := .bool sbc) En1705 (by kernel_rfl) Hv1689 rfl rfl (by kernel_rfl) ?_
            intro ac1713 En1714
            exact any_to hG (by kernel_rfl) (nd1603 _ _ (En1714.sub (by kernel_rfl)) (Hv1689.pick [0, 1, 2, 3, 4, 5, 6, 7, 9, 10] (by kernel_rfl) (by decide)))
        have nd1715 : ∀ (ac : Act) (wo : World), Env ac 77 [(1, .slice a_m (List.length m) c_m), (2, .pointer (some ⟨bk1, 0, none⟩)), (4, .bool false), (6, .pointer (some ⟨bq18, 0, none⟩)), (8, .slice (cutAt ao160 cp161 (List.length scb) 1) (List.length (List.drop (List.length scb) (sa ++ sba))) (cp161 - (List.length scb))), (57, .bool true), (59, .string (bstr loq1444)), (60, .slice (cutAt ao160 cp161 (List.length scb) 1) (List.length (List.drop (List.length scb) (sa ++ sba))) (cp161 - (List.length scb))), (62, .slice a_m (List.length m) c_m)] → Ev w [] wo [.box bq18 [.slice auq1444 (List.length luq1444) cuq1444, .bool fcq1444, .slice adq1444 (List.length ldq1444) cdq1444, .bool bcq1444, .slice ahq1444 (List.length lhq1444) chq1444, .slice apq1444 (List.length lpq1444) cpq1444, .slice aqq1444 (List.length lqq1444) cqq1444, .bool fcq1444, .bool feq1444, .slice arq1444 (List.length lrq1444) crq1444, .slice avq1444 (List.length lvq1444) cvq1444, .bool bcq1444, .bool beq1444] 66, .vec auq1444 cuq1444 1 (bys luq1444) 5, .vec adq1444 cdq1444 1 (bys ldq1444) 5, .vec ahq1444 chq1444 1 (bys lhq1444) 5, .vec apq1444 cpq1444 1 (bys lpq1444) 5, .vec aqq1444 cqq1444 1 (bys lqq1444) 5, .vec arq1444 crq1444 1 (bys lrq1444) 5, .vec avq1444 cvq1444 1 (bys lvq1444) 5, .box bk1 [.slice a_sa (List.length sa) c_sa, .slice a_sba (List.length sba) c_sba, .slice a_sbb (List.length sbb) c_sbb, .bool sbc, .bool sbd, .slice a_sca (List.length sca) c_sca, .slice a_scb (List.length scb) c_scb, .bool scc, .bool scd] 26, .vec (cutAt ao160 cp161 (List.length scb) 1) (cp161 - (List.length scb)) 1 (bys (List.drop (List.length scb) (sa ++ sba))) 5] → G 16 #[true, true, true, true, true, false, true, false, false, false, false, false, false, false, false, false, false, false, false, false, false, false] ac wo := by
          intro ac1716 wo1717 En1718 Hv1719
          refine any_from hG ?_
          refine any_two 5 7 (by kernel_rfl) ?_ ?_
          · rintro _ rfl
            refine op_str (d := some 61) (src := 22) (dst := 9) (e := 5) (ao := cutAt ao160 cp161 (List.length scb) 1) (cap := cp161 - (List.length scb)) (p := List.length (List.drop (List.length scb) (sa ++ sba))) (bs := List.drop (List.length scb) (sa ++ sba)) En1718 (by kernel_rfl) rfl (by kernel_rfl) (by kernel_rfl) (by kernel_rfl) (Hv1719.heap.reads (k := 9) rfl) (bys_vnz Hv1719.heap (k := 9) rfl) ?_
            intro ac1720 En1721
            exact any_to hG (by kernel_rfl) (nd1625 _ _ (En1721.sub (by kernel_rfl)) (Hv1719.pick [0, 1, 2, 3, 4, 5, 6, 7, 8, 9] (by kernel_rfl) (by decide)))
          · rintro _ rfl
            refine op_str (d := some 63) (src := 22) (dst := 9) (e := 5) (ao := a_m) (cap := c_m) (p := List.length m) (bs := m) En1718 (by kernel_rfl) rfl (by kernel_rfl) (by kernel_rfl) (by kernel_rfl) (i_m.ev Hv1719).reads i_m.nz ?_
            intro ac1722 En1723
            exact any_to hG (by kernel_rfl) (nd1655 _ _ (En1723.sub (by kernel_rfl)) (Hv1719.pick [0, 1, 2, 3, 4, 5, 6, 7, 8, 9] (by kernel_rfl) (by decide)))
        have nd1724 : ∀ (ac : Act) (wo : World), Env ac 77 [(1, .slice a_m (List.length m) c_m), (2, .pointer (some ⟨bk1, 0, none⟩)), (4, .bool false), (6, .pointer (some ⟨bq18, 0, none⟩)), (8, .slice (cutAt ao160 cp161 (List.length scb) 1) (List.length (List.drop (List.length scb) (sa ++ sba))) (cp161 - (List.length scb))), (57, .bool true), (58, .slice aoq1444 (List.length loq1444) coq1444), (61, .string (bstr (List.drop (List.length scb) (sa ++ sba)))), (62, .slice a_m (List.length m) c_m)] → Ev w [] wo [.box bq18 [.slice auq1444 (List.length luq1444) cuq1444, .bool fcq1444, .slice adq1444 (List.length ldq1444) cdq1444, .bool bcq1444, .slice ahq1444 (List.length lhq1444) chq1444, .slice apq1444 (List.length lpq1444) cpq1444, .slice aqq1444 (List.length lqq1444) cqq1444, .bool fcq1444, .bool feq1444, .slice arq1444 (List.length lrq1444) crq1444, .slice avq1444 (List.length lvq1444) cvq1444, .bool bcq1444, .bool beq1444] 66, .vec auq1444 cuq1444 1 (bys luq1444) 5, .vec adq1444 cdq1444 1 (bys ldq1444) 5, .vec ahq1444 chq1444 1 (bys lhq1444) 5, .vec apq1444 cpq1444 1 (bys lpq1444) 5, .vec aqq1444 cqq1444 1 (bys lqq1444) 5, .vec arq1444 crq1444 1 (bys lrq1444) 5, .vec avq1444 cvq1444 1 (bys lvq1444) 5, .vec aoq1444 coq1444 1 (bys loq1444) 5, .box bk1 [.slice a_sa (List.length sa) c_sa, .slice a_sba (List.length sba) c_sba, .slice a_sbb (List.length sbb) c_sbb, .bool sbc, .bool sbd, .slice a_sca (List.length sca) c_sca, .slice a_scb (List.length scb) c_scb, .bool scc, .bool scd] 26, .vec (cutAt ao160 cp161 (List.length scb) 1) (cp161 - (List.length scb)) 1 (bys (List.drop (List.length scb) (sa ++ sba))) 5] → G 16 #[true, true, true, false, true, true, true, false, false, false, false, false, false, false, false, false, false, false, false, false, false, false] ac wo := by
          intro ac1725 wo1726 En1727 Hv1728
          refine any_from hG ?_
          refine any_two 3 7 (by kernel_rfl) ?_ ?_
          · rintro _ rfl
            refine op_str (d := some 59) (src := 22) (dst := 9) (e := 5) (ao := aoq1444) (cap := coq1444) (p := List.length loq1444) (bs := loq1444) En1727 (by kernel_rfl) rfl (by kernel_rfl) (by kernel_rfl) (by kernel_rfl) (Hv1728.heap.reads (k := 8) rfl) (bys_vnz Hv1728.heap (k := 8) rfl) ?_
            intro ac1729 En1730
            exact any_to hG (by kernel_rfl) (nd1625 _ _ (En1730.sub (by kernel_rfl)) (Hv1728.pick [0, 1, 2, 3, 4, 5, 6, 7, 9, 10] (by kernel_rfl) (by decide)))
          · rintro _ rfl
            refine op_str (d := some 63) (src := 22) (dst := 9) (e := 5) (ao := a_m) (cap := c_m) (p := List.length m) (bs := m) En1727 (by kernel_rfl) rfl (by kernel_rfl) (by kernel_rfl) (by kernel_rfl) (i_m.ev Hv1728).reads i_m.nz ?_
            intro ac1731 En1732
            exact any_to hG (by kernel_rfl) (nd1685 _ _ (En1732.sub (by kernel_rfl)) (Hv1728.pick [0, 1, 2, 3, 4, 5, 6, 7, 8, 9, 10] (by kernel_rfl) (by decide)))
        have nd1733 : ∀ (ac : Act) (wo : World), Env ac 77 [(1, .slice a_m (List.length m) c_m), (2, .pointer (some ⟨bk1, 0, none⟩)), (4, .bool false), (6, .pointer (some ⟨bq18, 0, none⟩)), (8, .slice (cutAt ao160 cp161 (List.length scb) 1) (List.length (List.drop (List.length scb) (sa ++ sba))) (cp161 - (List.length scb))), (57, .bool true), (58, .slice aoq1444 (List.length loq1444) coq1444), (60, .slice (cutAt ao160 cp161 (List.length scb) 1) (List.length (List.drop (List.length scb) (sa ++ sba))) (cp161 - (List.length scb))), (63, .string (bstr m))] → Ev w [] wo [.box bq18 [.slice auq1444 (List.length luq1444) cuq1444, .bool fcq1444, .slice adq1444 (List.length ldq1444) cdq1444, .bool bcq1444, .slice ahq1444 (List.length lhq1444) chq1444, .slice apq1444 (List.length lpq1444) cpq1444, .slice aqq1444 (List.length lqq1444) cqq1444, .bool fcq1444, .bool feq1444, .slice arq1444 (List.length lrq1444) crq1444, .slice avq1444 (List.length lvq1444) cvq1444, .bool bcq1444, .bool beq1444] 66, .vec auq1444 cuq1444 1 (bys luq1444) 5, .vec adq1444 cdq1444 1 (bys ldq1444) 5, .vec ahq1444 chq1444 1 (bys lhq1444) 5, .vec apq1444 cpq1444 1 (bys lpq1444) 5, .vec aqq1444 cqq1444 1 (bys lqq1444) 5, .vec arq1444 crq1444 1 (bys lrq1444) 5, .vec avq1444 cvq1444 1 (bys lvq1444) 5, .vec aoq1444 coq1444 1 (bys loq1444) 5, .box bk1 [.slice a_sa (List.length sa) c_sa, .slice a_sba (List.length sba) c_sba, .slice a_sbb (List.length sbb) c_sbb, .bool sbc, .bool sbd, .slice a_sca (List.length sca) c_sca, .slice a_scb (List.length scb) c_scb, .bool scc, .bool scd] 26, .vec (cutAt ao160 cp161 (List.length scb) 1) (cp161 - (List.length scb)) 1 (bys (List.drop (List.length scb) (sa ++ sba))) 5] → G 16 #[true, true, true, false, true, false, true, true, false, false, false, false, false, false, false, false, false, false, false, false, false, false] ac wo := by
          intro ac1734 wo1735 En1736 Hv1737
          refine any_from hG ?_
          refine any_two 3 5 (by kernel_rfl) ?_ ?_
          · rintro _ rfl
            refine op_str (d := some 59) (src := 22) (dst := 9) (e := 5) (ao := aoq1444) (cap := coq1444) (p := List.length loq1444) (bs := loq1444) En1736 (by kernel_rfl) rfl (by kernel_rfl) (by kernel_rfl) (by kernel_rfl) (Hv1737.heap.reads (k := 8) rfl) (bys_vnz Hv1737.heap (k := 8) rfl) ?_
            intro ac1738 En1739
            exact any_to hG (by kernel_rfl) (nd1655 _ _ (En1739.sub (by kernel_rfl)) (Hv1737.pick [0, 1, 2, 3, 4, 5, 6, 7, 9, 10] (by kernel_rfl) (by decide)))
          · rintro _ rfl
            refine op_str (d := some 61) (src := 22) (dst := 9) (e := 5) (ao := cutAt ao160 cp161 (List.length scb) 1) (cap := cp161 - (List.length scb)) (p := List.length (List.drop (List.length scb) (sa ++ sba))) (bs := List.drop (List.length scb) (sa ++ sba)) En1736 (by kernel_rfl) rfl (by kernel_rfl) (by kernel_rfl) (by kernel_rfl) (Hv1737.heap.reads (k := 10) rfl) (bys_vnz Hv1737.heap (k := 10) rfl) ?_
            intro ac1740 En1741
            exact any_to hG (by kernel_rfl) (nd1685 _ _ (En1741.sub (by kernel_rfl)) (Hv1737.pick [0, 1, 2, 3, 4, 5, 6, 7, 8, 9, 10] (by kernel_rfl) (by decide)))
        refine any_from hG ?_
        refine any_pureR (d := some 56) En1452 (v := .bool true) 0 (by kernel_rfl) (by kernel_rfl) rfl ?_
        intro ac1742 En1743
        refine any_pureR (d := some 57) En1743 (v := .bool true) 1 (by kernel_rfl) (by kernel_rfl) rfl ?_
        intro ac1744 En1745
        refine any_pureR (d := some 58) En1745 (v := .slice aoq1444 (List.length loq1444) coq1444) 2 (by kernel_rfl) (by kernel_rfl) rfl ?_
        intro ac1746 En1747
        refine any_pureR (d := some 60) En1747 (v := .slice (cutAt ao160 cp161 (List.length scb) 1) (List.length (List.drop (List.length scb) (sa ++ sba))) (cp161 - (List.length scb))) 4 (by kernel_rfl) (by kernel_rfl) rfl ?_
        intro ac1748 En1749
        refine any_pureR (d := some 62) En1749 (v := .slice a_m (List.length m) c_m) 6 (by kernel_rfl) (by kernel_rfl) rfl ?_
        intro ac1750 En1751
        refine any_ways [3, 5, 7] (by kernel_rfl) rfl ?_
        refine ⟨?_, ?_, ?_, trivial⟩
        · rintro _ rfl
          refine op_str (d := some 59) (src := 22) (dst := 9) (e := 5) (ao := aoq1444) (cap := coq1444) (p := List.length loq1444) (bs := loq1444) En1751 (by kernel_rfl) rfl (by kernel_rfl) (by kernel_rfl) (by kernel_rfl) (wo1453.heap.reads (k := 8) rfl) (bys_vnz wo1453.heap (k := 8) rfl) ?_
          intro ac1752 En1753
          exact any_to hG (by kernel_rfl) (nd1715 _ _ (En1753.sub (by kernel_rfl)) (wo1453.pick [0, 1, 2, 3, 4, 5, 6, 7, 9, 10] (by kernel_rfl) (by decide)))
        · rintro _ rfl
          refine op_str (d := some 61) (src := 22) (dst := 9) (e := 5) (ao := cutAt ao160 cp161 (List.length scb) 1) (cap := cp161 - (List.length scb)) (p := List.length (List.drop (List.length scb) (sa ++ sba))) (bs := List.drop (List.length scb) (sa ++ sba)) En1751 (by kernel_rfl) rfl (by kernel_rfl) (by kernel_rfl) (by kernel_rfl) (wo1453.heap.reads (k := 10) rfl) (bys_vnz wo1453.heap (k := 10) rfl) ?_
          intro ac1754 En1755
          exact any_to hG (by kernel_rfl) (nd1724 _ _ (En1755.sub (by kernel_rfl)) (wo1453.pick [0, 1, 2, 3, 4, 5, 6, 7, 8, 9, 10] (by kernel_rfl) (by decide)))
        · rintro _ rfl
          refine op_str (d := some 63) (src := 22) (dst := 9) (e := 5) (ao := a_m) (cap := c_m) (p := List.length m) (bs := m) En1751 (by kernel_rfl) rfl (by kernel_rfl) (by kernel_rfl) (by kernel_rfl) (i_m.ev wo1453).reads i_m.nz ?_
          intro ac1756 En1757
          exact any_to hG (by kernel_rfl) (nd1733 _ _ (En1757.sub (by kernel_rfl)) (wo1453.pick [0, 1, 2, 3, 4, 5, 6, 7, 8, 9, 10] (by kernel_rfl) (by decide)))
      rintro ac1758 wo1759 ⟨En1760, Hv1761⟩
      refine then_normal ?_
      refine wp_ret ?_
      refine d_ret1 (t := 4) (v := .bool true) En1760 (by kernel_rfl) (by kernel_rfl) ?_
      exact ⟨rfl, Hv1761.pick [] (by kernel_rfl) (by decide)⟩
  ·
    refine region_from ?_  -- region 2
    refine from_op (by kernel_rfl) ?_
    refine op_loadaggbox (d := some 11) (t := 26) (b := bk1) (off := 0) (k := 0) (m := 9) (xs := [.slice a_sa (List.length sa) c_sa, .slice a_sba (List.length sba) c_sba, .slice a_sbb (List.length sbb) c_sbb, .bool sbc, .bool sbd, .slice a_sca (List.length sca) c_sca, .slice a_scb (List.length scb) c_scb, .bool scc, .bool scd]) En15 (by kernel_rfl) Hv12 rfl rfl rfl (by kernel_rfl) (by kernel_rfl) ?_
    intro ac1762 En1763
    refine from_op (by kernel_rfl) ?_
    have hM1765 : Heap wo10 [] := Hv12.heap.pick [] (by kernel_rfl) (by decide)
    refine op_call (d := some 12) (f := 27) (args := #[.agg #[.slice a_sa (List.length sa) c_sa, .slice a_sba (List.length sba) c_sba, .slice a_sbb (List.length sbb) c_sbb, .bool sbc, .bool sbd, .slice a_sca (List.length sca) c_sca, .slice a_scb (List.length scb) c_scb, .bool scc, .bool scd]]) En1763 (by kernel_rfl) ((replay_nil _ a_sa (List.length sa) c_sa sa (by first | rfl | (simp; done) | (simp; omega) | omega) ((i_sa.ev Hv12).pick [] (by kernel_rfl)) a_sba (List.length sba) c_sba sba (by first | rfl | (simp; done) | (simp; omega) | omega) ((i_sba.ev Hv12).pick [] (by kernel_rfl)) a_sbb (List.length sbb) c_sbb sbb (by first | rfl | (simp; done) | (simp; omega) | omega) ((i_sbb.ev Hv12).pick [] (by kernel_rfl)) sbc sbd a_sca (List.length sca) c_sca sca (by first | rfl | (simp; done) | (simp; omega) | omega) ((i_sca.ev Hv12).pick [] (by kernel_rfl)) a_scb (List.length scb) c_scb scb (by first | rfl | (simp; done) | (simp; omega) | omega) ((i_scb.ev Hv12).pick [] (by kernel_rfl)) scc scd (by first | omega | (simp; done) | (simp; omega)) hr).mono ?_)
    rintro _ wo1767 ⟨rfl, he1770⟩
    refine ⟨_, rfl, ?_⟩
    intro ac1766 En1768
    have Hv1769 : Ev w [] wo1767 [.box bk1 [.slice a_sa (List.length sa) c_sa, .slice a_sba (List.length sba) c_sba, .slice a_sbb (List.length sbb) c_sbb, .bool sbc, .bool sbd, .slice a_sca (List.length sca) c_sca, .slice a_scb (List.length scb) c_scb, .bool scc, .bool scd] 26] := Hv12.trans (Ev.call (R := [.box bk1 [.slice a_sa (List.length sa) c_sa, .slice a_sba (List.length sba) c_sba, .slice a_sbb (List.length sbb) c_sbb, .bool sbc, .bool sbd, .slice a_sca (List.length sca) c_sca, .slice a_scb (List.length scb) c_scb, .bool scc, .bool scd] 26]) Hv12.heap [0] (by kernel_rfl) (by decide) he1770)
    clear hM1765 he1770
    refine d_pures [(1, .slice a_m (List.length m) c_m), (2, .pointer (some ⟨bk1, 0, none⟩)), (4, .bool false), (5, .bool true), (6, .pointer none)] [.pointer none] 3 En1768 (by kernel_rfl) (by kernel_rfl) rfl ?_
    intro ac1771 En1772
    refine from_end (by kernel_rfl) ?_
    refine then_normal ?_
    refine wp_seq ?_
    refine wp_seq ?_
    refine region_from ?_  -- region 3
    refine d_pures [(1, .slice a_m (List.length m) c_m), (2, .pointer (some ⟨bk1, 0, none⟩)), (4, .bool false), (6, .pointer none), (15, .bool false), (17, .bool true)] [.bool true, .bool false, .bool false, .pointer none, .bool true] 5 En1772 (by kernel_rfl) (by kernel_rfl) rfl ?_
    intro ac1773 En1774
    refine from_op (by kernel_rfl) ?_
    refine op_loadaggbox (d := some 18) (t := 26) (b := bk1) (off := 0) (k := 0) (m := 9) (xs := [.slice a_sa (List.length sa) c_sa, .slice a_sba (List.length sba) c_sba, .slice a_sbb (List.length sbb) c_sbb, .bool sbc, .bool sbd, .slice a_sca (List.length sca) c_sca, .slice a_scb (List.length scb) c_scb, .bool scc, .bool scd]) En1774 (by kernel_rfl) Hv1769 rfl rfl rfl (by kernel_rfl) (by kernel_rfl) ?_
    intro ac1775 En1776
    refine from_op (by kernel_rfl) ?_
    have hM1777 : Heap wo1767 [] := Hv1769.heap.pick [] (by kernel_rfl) (by decide)
    refine op_call (d := some 19) (f := 10) (args := #[.agg #[.slice a_sa (List.length sa) c_sa, .slice a_sba (List.length sba) c_sba, .slice a_sbb (List.length sbb) c_sbb, .bool sbc, .bool sbd, .slice a_sca (List.length sca) c_sca, .slice a_scb (List.length scb) c_scb, .bool scc, .bool scd]]) En1776 (by kernel_rfl) ((relay_ref _ a_sa (List.length sa) c_sa sa (by first | rfl | (simp; done) | (simp; omega) | omega) ((i_sa.ev Hv1769).pick [] (by kernel_rfl)) a_sba (List.length sba) c_sba sba (by first | rfl | (simp; done) | (simp; omega) | omega) ((i_sba.ev Hv1769).pick [] (by kernel_rfl)) a_sbb (List.length sbb) c_sbb sbb (by first | rfl | (simp; done) | (simp; omega) | omega) ((i_sbb.ev Hv1769).pick [] (by kernel_rfl)) sbc sbd a_sca (List.length sca) c_sca sca (by first | rfl | (simp; done) | (simp; omega) | omega) ((i_sca.ev Hv1769).pick [] (by kernel_rfl)) a_scb (List.length scb) c_scb scb (by first | rfl | (simp; done) | (simp; omega) | omega) ((i_scb.ev Hv1769).pick [] (by kernel_rfl)) scc scd (by first | omega | (simp; done) | (simp; omega))).mono ?_)
    rintro _ wo1779 ⟨rfl, he1782⟩
    refine ⟨_, rfl, ?_⟩
    intro ac1778 En1780
    have Hv1781 : Ev w [] wo1779 [.box bk1 [.slice a_sa (List.length sa) c_sa, .slice a_sba (List.length sba) c_sba, .slice a_sbb (List.length sbb) c_sbb, .bool sbc, .bool sbd, .slice a_sca (List.length sca) c_sca, .slice a_scb (List.length scb) c_scb, .bool scc, .bool scd] 26] := Hv1769.trans (Ev.call (R := [.box bk1 [.slice a_sa (List.length sa) c_sa, .slice a_sba (List.length sba) c_sba, .slice a_sbb (List.length sbb) c_sbb, .bool sbc, .bool sbd, .slice a_sca (List.length sca) c_sca, .slice a_scb (List.length scb) c_scb, .bool scc, .bool scd] 26]) Hv1769.heap [0] (by kernel_rfl) (by decide) he1782)
    clear hM1777 he1782
    refine d_pures [(1, .slice a_m (List.length m) c_m), (2, .pointer (some ⟨bk1, 0, none⟩)), (4, .bool false), (6, .pointer none), (15, .bool false), (17, .bool true), (20, .bool (relayF sa sba sbb sbc sbd sca scb scc scd != (0 : Int)))] [.bool (relayF sa sba sbb sbc sbd sca scb scc scd != (0 : Int))] 8 En1780 (by kernel_rfl) (by kernel_rfl) rfl ?_
    intro ac1783 En1784
    rw [show (relayF sa sba sbb sbc sbd sca scb scc scd != (0 : Int)) = true from (by simp [hr])] at En1784
    refine d_pures [(1, .slice a_m (List.length m) c_m), (2, .pointer (some ⟨bk1, 0, none⟩)), (4, .bool false), (6, .pointer none), (22, .bool false)] [.bool false, .bool false] 10 En1784 (by kernel_rfl) (by kernel_rfl) rfl ?_
    intro ac1785 En1786
    refine from_end (by kernel_rfl) ?_
    refine then_normal ?_
    refine cond_false En1786 (t := false) (by kernel_rfl) rfl ?_
    refine wp_skip ?_
    refine then_normal ?_
    refine wp_seq ?_
    refine wp_seq ?_
    refine region_from ?_  -- region 5
    refine d_pures [(1, .slice a_m (List.length m) c_m), (2, .pointer (some ⟨bk1, 0, none⟩)), (4, .bool false), (6, .pointer none), (24, .bool true)] [.pointer none, .bool true] 2 En1786 (by kernel_rfl) (by kernel_rfl) rfl ?_
    intro ac1787 En1788
    refine from_end (by kernel_rfl) ?_
    refine then_normal ?_
    refine cond_true En1788 (t := true) (by kernel_rfl) rfl ?_
    refine wp_seq ?_
    refine region_from ?_  -- region 6
    refine d_pures [(1, .slice a_m (List.length m) c_m), (2, .pointer (some ⟨bk1, 0, none⟩)), (4, .bool true), (6, .pointer none)] [.bool true] 1 En1788 (by kernel_rfl) (by kernel_rfl) rfl ?_
    intro ac1789 En1790
    refine from_end (by kernel_rfl) ?_
    refine then_normal ?_
    refine wp_ret ?_
    refine then_ret ?_
    refine d_ret1 (t := 4) (v := .bool true) En1790 (by kernel_rfl) (by kernel_rfl) ?_
    exact ⟨rfl, Hv1781.pick [] (by kernel_rfl) (by decide)⟩

end Go.Proofs.Ytjecaljhipfbfaa
