/- JudgeFaults: its walk. -/
import Derived.Test.YtjecaljhipfbfaaJ3
namespace Go.Proofs.Ytjecaljhipfbfaa
open Go.Dbr
set_option maxRecDepth 100000
set_option maxHeartbeats 2000000
set_option linter.unusedVariables false

theorem faults_walk (a_sa : Option Addr) (c_sa : Nat) (sa : List UInt8) (a_sba : Option Addr) (c_sba : Nat) (sba : List UInt8) (a_sbb : Option Addr) (c_sbb : Nat) (sbb : List UInt8) (sbc : Bool) (sbd : Bool) (a_sca : Option Addr) (c_sca : Nat) (sca : List UInt8) (a_scb : Option Addr) (c_scb : Nat) (scb : List UInt8) (scc : Bool) (scd : Bool) (w : World) (i_sa : InB w [] a_sa c_sa sa) (i_sba : InB w [] a_sba c_sba sba) (i_sbb : InB w [] a_sbb c_sbb sbb) (i_sca : InB w [] a_sca c_sca sca) (i_scb : InB w [] a_scb c_scb scb) (hB : (List.length sa + ((List.length sba + (List.length sbb + (0 + (0 + (0))))) + ((List.length sca + (List.length scb + (0 + (0 + (0))))) + (0)))) ≤ 1048576) : Calls Try.prog 3 #[.agg #[.slice a_sa (List.length sa) c_sa, .slice a_sba (List.length sba) c_sba, .slice a_sbb (List.length sbb) c_sbb, .bool sbc, .bool sbd, .slice a_sca (List.length sca) c_sca, .slice a_scb (List.length scb) c_scb, .bool scc, .bool scd]] w fun e w' => e = .returned (.bool true) ∧ Ev w [] w' [] := by
  refine d_start [(0, .agg #[.slice a_sa (List.length sa) c_sa, .slice a_sba (List.length sba) c_sba, .slice a_sbb (List.length sbb) c_sbb, .bool sbc, .bool sbd, .slice a_sca (List.length sca) c_sca, .slice a_scb (List.length scb) c_scb, .bool scc, .bool scd])] 24 Go.Proofs.Try.func3 Go.Proofs.Try.ntmps3 rfl (by kernel_rfl) (by kernel_rfl) ?_
  intro act0 En0
  have Hv0 : Ev w [] w [] := Ev.refl (Heap.nil _)
  refine wp_seq ?_
  refine region_from ?_  -- region 0
  refine from_op (by kernel_rfl) ?_
  refine op_newbox (d := some 1) (T := 26) (v := .agg #[.slice a_sa (List.length sa) c_sa, .slice a_sba (List.length sba) c_sba, .slice a_sbb (List.length sbb) c_sbb, .bool sbc, .bool sbd, .slice a_sca (List.length sca) c_sca, .slice a_scb (List.length scb) c_scb, .bool scc, .bool scd]) (cs := [.slice a_sa (List.length sa) c_sa, .slice a_sba (List.length sba) c_sba, .slice a_sbb (List.length sbb) c_sbb, .bool sbc, .bool sbd, .slice a_sca (List.length sca) c_sca, .slice a_scb (List.length scb) c_scb, .bool scc, .bool scd]) En0 (by kernel_rfl) rfl Hv0 ?_
  intro ac2 wo3 bk1 En4 Hv5
  refine d_pures [(1, .pointer (some ⟨bk1, 0, none⟩)), (2, .bool false)] [.bool false] 2 En4 (by kernel_rfl) (by kernel_rfl) rfl ?_
  intro ac6 En7
  refine from_end (by kernel_rfl) ?_
  refine then_normal ?_
  refine wp_seq ?_
  refine region_from ?_  -- region 1
  refine from_op (by kernel_rfl) ?_
  have hM8 : Heap wo3 [] := Hv5.heap.pick [] (by kernel_rfl) (by decide)
  refine op_call (d := some 5) (f := 8) (args := #[]) En7 (by kernel_rfl) ((head_ok _).mono ?_)
  rintro _ wo10 ⟨rfl, he13⟩
  refine ⟨_, rfl, ?_⟩
  intro ac9 En11
  have Hv12 : Ev w [] wo10 [.box bk1 [.slice a_sa (List.length sa) c_sa, .slice a_sba (List.length sba) c_sba, .slice a_sbb (List.length sbb) c_sbb, .bool sbc, .bool sbd, .slice a_sca (List.length sca) c_sca, .slice a_scb (List.length scb) c_scb, .bool scc, .bool scd] 26] := Hv5.trans (Ev.call (R := [.box bk1 [.slice a_sa (List.length sa) c_sa, .slice a_sba (List.length sba) c_sba, .slice a_sbb (List.length sbb) c_sbb, .bool sbc, .bool sbd, .slice a_sca (List.length sca) c_sca, .slice a_scb (List.length scb) c_scb, .bool scc, .bool scd] 26]) Hv5.heap [0] (by kernel_rfl) (by decide) he13)
  clear hM8 he13
  refine d_pures [(1, .pointer (some ⟨bk1, 0, none⟩)), (2, .bool false), (3, .bool true)] [.bool true] 2 En11 (by kernel_rfl) (by kernel_rfl) rfl ?_
  intro ac14 En15
  refine from_end (by kernel_rfl) ?_
  refine then_normal ?_
  refine wp_seq ?_
  refine region_from ?_  -- region 2
  refine d_pures [(1, .pointer (some ⟨bk1, 0, none⟩)), (2, .bool false), (3, .bool true), (6, .pointer (some ⟨bk1, 0, none⟩))] [.pointer (some ⟨bk1, 0, none⟩)] 1 En15 (by kernel_rfl) (by kernel_rfl) rfl ?_
  intro ac16 En17
  refine from_op (by kernel_rfl) ?_
  refine op_loadbox (d := some 7) (t := 22) (b := bk1) (off := 0) (k := 0) (v := .slice a_sa (List.length sa) c_sa) En17 (by kernel_rfl) Hv12 rfl rfl (by kernel_rfl) ?_
  intro ac18 En19
  refine from_op (by kernel_rfl) ?_
  refine op_str (d := some 8) (src := 22) (dst := 9) (e := 5) (ao := a_sa) (cap := c_sa) (p := List.length sa) (bs := sa) En19 (by kernel_rfl) rfl (by kernel_rfl) (by kernel_rfl) (by kernel_rfl) (i_sa.ev Hv12).reads i_sa.nz ?_
  intro ac20 En21
  refine d_pures [(1, .pointer (some ⟨bk1, 0, none⟩)), (2, .bool false), (3, .bool true), (4, .string (bstr sa))] [.string (bstr sa)] 4 En21 (by kernel_rfl) (by kernel_rfl) rfl ?_
  intro ac22 En23
  refine from_end (by kernel_rfl) ?_
  refine then_normal ?_
  refine wp_seq ?_
  refine region_cut (F := fun ac wo => Env ac 24 [(1, .pointer (some ⟨bk1, 0, none⟩)), (2, .bool true)] ∧ Ev w [] wo [.box bk1 [.slice a_sa (List.length sa) c_sa, .slice a_sba (List.length sba) c_sba, .slice a_sbb (List.length sbb) c_sbb, .bool sbc, .bool sbd, .slice a_sca (List.length sca) c_sca, .slice a_scb (List.length scb) c_scb, .bool scc, .bool scd] 26]) ?_ ?_
  ·
    refine draw_any (by kernel_rfl) 16 (by kernel_rfl) ?_  -- region 3
    have wo24 := Hv12.trans (Ev.drew Hv12.heap)
    refine any_pureR (d := some 9) En23 (v := .bool true) 0 (by kernel_rfl) (by kernel_rfl) rfl ?_
    intro ac25 En26
    refine any_pureR (d := some 10) En26 (v := .bool true) 1 (by kernel_rfl) (by kernel_rfl) rfl ?_
    intro ac27 En28
    refine any_two 2 4 (by kernel_rfl) ?_ ?_
    · rintro _ rfl
      refine op_loadaggbox (d := some 11) (t := 26) (b := bk1) (off := 0) (k := 0) (m := 9) (xs := [.slice a_sa (List.length sa) c_sa, .slice a_sba (List.length sba) c_sba, .slice a_sbb (List.length sbb) c_sbb, .bool sbc, .bool sbd, .slice a_sca (List.length sca) c_sca, .slice a_scb (List.length scb) c_scb, .bool scc, .bool scd]) En28 (by kernel_rfl) wo24 rfl rfl rfl (by kernel_rfl) (by kernel_rfl) ?_
      intro ac29 En30
      refine any_two 3 4 (by kernel_rfl) ?_ ?_
      · rintro _ rfl
        have hM31 : Heap wo10.drew [] := wo24.heap.pick [] (by kernel_rfl) (by decide)
        refine op_call (d := some 12) (f := 9) (args := #[.agg #[.slice a_sa (List.length sa) c_sa, .slice a_sba (List.length sba) c_sba, .slice a_sbb (List.length sbb) c_sbb, .bool sbc, .bool sbd, .slice a_sca (List.length sca) c_sca, .slice a_scb (List.length scb) c_scb, .bool scc, .bool scd]]) En30 (by kernel_rfl) ((relay_go _ a_sa (List.length sa) c_sa sa (by first | rfl | (simp; done) | (simp; omega) | omega) ((i_sa.ev wo24).pick [] (by kernel_rfl)) a_sba (List.length sba) c_sba sba (by first | rfl | (simp; done) | (simp; omega) | omega) ((i_sba.ev wo24).pick [] (by kernel_rfl)) a_sbb (List.length sbb) c_sbb sbb (by first | rfl | (simp; done) | (simp; omega) | omega) ((i_sbb.ev wo24).pick [] (by kernel_rfl)) sbc sbd a_sca (List.length sca) c_sca sca (by first | rfl | (simp; done) | (simp; omega) | omega) ((i_sca.ev wo24).pick [] (by kernel_rfl)) a_scb (List.length scb) c_scb scb (by first | rfl | (simp; done) | (simp; omega) | omega) ((i_scb.ev wo24).pick [] (by kernel_rfl)) scc scd (by first | omega | (simp; done) | (simp; omega))).mono ?_)
        rintro _ wo33 ⟨rfl, he36⟩
        refine ⟨_, rfl, ?_⟩
        intro ac32 En34
        have Hv35 : Ev w [] wo33 [.box bk1 [.slice a_sa (List.length sa) c_sa, .slice a_sba (List.length sba) c_sba, .slice a_sbb (List.length sbb) c_sbb, .bool sbc, .bool sbd, .slice a_sca (List.length sca) c_sca, .slice a_scb (List.length scb) c_scb, .bool scc, .bool scd] 26] := wo24.trans (Ev.call (R := [.box bk1 [.slice a_sa (List.length sa) c_sa, .slice a_sba (List.length sba) c_sba, .slice a_sbb (List.length sbb) c_sbb, .bool sbc, .bool sbd, .slice a_sca (List.length sca) c_sca, .slice a_scb (List.length scb) c_scb, .bool scc, .bool scd] 26]) wo24.heap [0] (by kernel_rfl) (by decide) he36)
        clear hM31 he36
        refine any_at 4 (by kernel_rfl) rfl ?_
        refine op_loadaggbox (d := some 13) (t := 26) (b := bk1) (off := 0) (k := 0) (m := 9) (xs := [.slice a_sa (List.length sa) c_sa, .slice a_sba (List.length sba) c_sba, .slice a_sbb (List.length sbb) c_sbb, .bool sbc, .bool sbd, .slice a_sca (List.length sca) c_sca, .slice a_scb (List.length scb) c_scb, .bool scc, .bool scd]) En34 (by kernel_rfl) Hv35 rfl rfl rfl (by kernel_rfl) (by kernel_rfl) ?_
        intro ac37 En38
        refine any_at 5 (by kernel_rfl) rfl ?_
        have hM39 : Heap wo33 [] := Hv35.heap.pick [] (by kernel_rfl) (by decide)
        refine op_call (d := some 14) (f := 10) (args := #[.agg #[.slice a_sa (List.length sa) c_sa, .slice a_sba (List.length sba) c_sba, .slice a_sbb (List.length sbb) c_sbb, .bool sbc, .bool sbd, .slice a_sca (List.length sca) c_sca, .slice a_scb (List.length scb) c_scb, .bool scc, .bool scd]]) En38 (by kernel_rfl) ((relay_ref _ a_sa (List.length sa) c_sa sa (by first | rfl | (simp; done) | (simp; omega) | omega) ((i_sa.ev Hv35).pick [] (by kernel_rfl)) a_sba (List.length sba) c_sba sba (by first | rfl | (simp; done) | (simp; omega) | omega) ((i_sba.ev Hv35).pick [] (by kernel_rfl)) a_sbb (List.length sbb) c_sbb sbb (by first | rfl | (simp; done) | (simp; omega) | omega) ((i_sbb.ev Hv35).pick [] (by kernel_rfl)) sbc sbd a_sca (List.length sca) c_sca sca (by first | rfl | (simp; done) | (simp; omega) | omega) ((i_sca.ev Hv35).pick [] (by kernel_rfl)) a_scb (List.length scb) c_scb scb (by first | rfl | (simp; done) | (simp; omega) | omega) ((i_scb.ev Hv35).pick [] (by kernel_rfl)) scc scd (by first | omega | (simp; done) | (simp; omega))).mono ?_)
        rintro _ wo41 ⟨rfl, he44⟩
        refine ⟨_, rfl, ?_⟩
        intro ac40 En42
        have Hv43 : Ev w [] wo41 [.box bk1 [.slice a_sa (List.length sa) c_sa, .slice a_sba (List.length sba) c_sba, .slice a_sbb (List.length sbb) c_sbb, .bool sbc, .bool sbd, .slice a_sca (List.length sca) c_sca, .slice a_scb (List.length scb) c_scb, .bool scc, .bool scd] 26] := Hv35.trans (Ev.call (R := [.box bk1 [.slice a_sa (List.length sa) c_sa, .slice a_sba (List.length sba) c_sba, .slice a_sbb (List.length sbb) c_sbb, .bool sbc, .bool sbd, .slice a_sca (List.length sca) c_sca, .slice a_scb (List.length scb) c_scb, .bool scc, .bool scd] 26]) Hv35.heap [0] (by kernel_rfl) (by decide) he44)
        clear hM39 he44
        refine any_pureR (d := some 15) En42 (v := .bool (relayF sa sba sbb sbc sbd sca scb scc scd == relayF sa sba sbb sbc sbd sca scb scc scd)) 6 (by kernel_rfl) (by kernel_rfl) rfl ?_
        intro ac45 En46
        rw [show (relayF sa sba sbb sbc sbd sca scb scc scd == relayF sa sba sbb sbc sbd sca scb scc scd) = true from (by simp)] at En46
        refine any_pureR (d := some 16) En46 (v := .bool true) 7 (by kernel_rfl) (by kernel_rfl) rfl ?_
        intro ac47 En48
        refine any_pureR (d := some 17) En48 (v := .bool true) 8 (by kernel_rfl) (by kernel_rfl) rfl ?_
        intro ac49 En50
        refine any_pureR (d := some 18) En50 (v := .pointer (some ⟨bk1, 0, none⟩)) 9 (by kernel_rfl) (by kernel_rfl) rfl ?_
        intro ac51 En52
        refine any_pureR (d := some 21) En52 (v := .string (bstr sa)) 12 (by kernel_rfl) (by kernel_rfl) rfl ?_
        intro ac53 En54
        refine any_at 10 (by kernel_rfl) rfl ?_
        refine op_loadbox (d := some 19) (t := 22) (b := bk1) (off := 0) (k := 0) (v := .slice a_sa (List.length sa) c_sa) En54 (by kernel_rfl) Hv43 rfl rfl (by kernel_rfl) ?_
        intro ac55 En56
        refine any_at 11 (by kernel_rfl) rfl ?_
        refine op_str (d := some 20) (src := 22) (dst := 9) (e := 5) (ao := a_sa) (cap := c_sa) (p := List.length sa) (bs := sa) En56 (by kernel_rfl) rfl (by kernel_rfl) (by kernel_rfl) (by kernel_rfl) (i_sa.ev Hv43).reads i_sa.nz ?_
        intro ac57 En58
        refine any_pureR (d := some 22) En58 (v := .bool (ByteArray.toList (bstr sa) == ByteArray.toList (bstr sa))) 13 (by kernel_rfl) (by kernel_rfl) rfl ?_
        intro ac59 En60
        rw [Go.Dbr.bstr_eq sa sa, show (sa == sa) = true from (by simp)] at En60
        refine any_pureR (d := some 23) En60 (v := .bool true) 14 (by kernel_rfl) (by kernel_rfl) rfl ?_
        intro ac61 En62
        refine any_pureR (d := some 2) En62 (v := .bool true) 15 (by kernel_rfl) (by kernel_rfl) rfl ?_
        intro ac63 En64
        exact any_end (by kernel_rfl) ⟨En64.sub (by kernel_rfl), Hv43.pick [0] (by kernel_rfl) (by decide)⟩
      · rintro _ rfl
        refine op_loadaggbox (d := some 13) (t := 26) (b := bk1) (off := 0) (k := 0) (m := 9) (xs := [.slice a_sa (List.length sa) c_sa, .slice a_sba (List.length sba) c_sba, .slice a_sbb (List.length sbb) c_sbb, .bool sbc, .bool sbd, .slice a_sca (List.length sca) c_sca, .slice a_scb (List.length scb) c_scb, .bool scc, .bool scd]) En30 (by kernel_rfl) wo24 rfl rfl rfl (by kernel_rfl) (by kernel_rfl) ?_
        intro ac65 En66
        refine any_at 3 (by kernel_rfl) rfl ?_
        have hM67 : Heap wo10.drew [] := wo24.heap.pick [] (by kernel_rfl) (by decide)
        refine op_call (d := some 12) (f := 9) (args := #[.agg #[.slice a_sa (List.length sa) c_sa, .slice a_sba (List.length sba) c_sba, .slice a_sbb (List.length sbb) c_sbb, .bool sbc, .bool sbd, .slice a_sca (List.length sca) c_sca, .slice a_scb (List.length scb) c_scb, .bool scc, .bool scd]]) En66 (by kernel_rfl) ((relay_go _ a_sa (List.length sa) c_sa sa (by first | rfl | (simp; done) | (simp; omega) | omega) ((i_sa.ev wo24).pick [] (by kernel_rfl)) a_sba (List.length sba) c_sba sba (by first | rfl | (simp; done) | (simp; omega) | omega) ((i_sba.ev wo24).pick [] (by kernel_rfl)) a_sbb (List.length sbb) c_sbb sbb (by first | rfl | (simp; done) | (simp; omega) | omega) ((i_sbb.ev wo24).pick [] (by kernel_rfl)) sbc sbd a_sca (List.length sca) c_sca sca (by first | rfl | (simp; done) | (simp; omega) | omega) ((i_sca.ev wo24).pick [] (by kernel_rfl)) a_scb (List.length scb) c_scb scb (by first | rfl | (simp; done) | (simp; omega) | omega) ((i_scb.ev wo24).pick [] (by kernel_rfl)) scc scd (by first | omega | (simp; done) | (simp; omega))).mono ?_)
        rintro _ wo69 ⟨rfl, he72⟩
        refine ⟨_, rfl, ?_⟩
        intro ac68 En70
        have Hv71 : Ev w [] wo69 [.box bk1 [.slice a_sa (List.length sa) c_sa, .slice a_sba (List.length sba) c_sba, .slice a_sbb (List.length sbb) c_sbb, .bool sbc, .bool sbd, .slice a_sca (List.length sca) c_sca, .slice a_scb (List.length scb) c_scb, .bool scc, .bool scd] 26] := wo24.trans (Ev.call (R := [.box bk1 [.slice a_sa (List.length sa) c_sa, .slice a_sba (List.length sba) c_sba, .slice a_sbb (List.length sbb) c_sbb, .bool sbc, .bool sbd, .slice a_sca (List.length sca) c_sca, .slice a_scb (List.length scb) c_scb, .bool scc, .bool scd] 26]) wo24.heap [0] (by kernel_rfl) (by decide) he72)
        clear hM67 he72
        refine any_at 5 (by kernel_rfl) rfl ?_
        have hM73 : Heap wo69 [] := Hv71.heap.pick [] (by kernel_rfl) (by decide)
        refine op_call (d := some 14) (f := 10) (args := #[.agg #[.slice a_sa (List.length sa) c_sa, .slice a_sba (List.length sba) c_sba, .slice a_sbb (List.length sbb) c_sbb, .bool sbc, .bool sbd, .slice a_sca (List.length sca) c_sca, .slice a_scb (List.length scb) c_scb, .bool scc, .bool scd]]) En70 (by kernel_rfl) ((relay_ref _ a_sa (List.length sa) c_sa sa (by first | rfl | (simp; done) | (simp; omega) | omega) ((i_sa.ev Hv71).pick [] (by kernel_rfl)) a_sba (List.length sba) c_sba sba (by first | rfl | (simp; done) | (simp; omega) | omega) ((i_sba.ev Hv71).pick [] (by kernel_rfl)) a_sbb (List.length sbb) c_sbb sbb (by first | rfl | (simp; done) | (simp; omega) | omega) ((i_sbb.ev Hv71).pick [] (by kernel_rfl)) sbc sbd a_sca (List.length sca) c_sca sca (by first | rfl | (simp; done) | (simp; omega) | omega) ((i_sca.ev Hv71).pick [] (by kernel_rfl)) a_scb (List.length scb) c_scb scb (by first | rfl | (simp; done) | (simp; omega) | omega) ((i_scb.ev Hv71).pick [] (by kernel_rfl)) scc scd (by first | omega | (simp; done) | (simp; omega))).mono ?_)
        rintro _ wo75 ⟨rfl, he78⟩
        refine ⟨_, rfl, ?_⟩
        intro ac74 En76
        have Hv77 : Ev w [] wo75 [.box bk1 [.slice a_sa (List.length sa) c_sa, .slice a_sba (List.length sba) c_sba, .slice a_sbb (List.length sbb) c_sbb, .bool sbc, .bool sbd, .slice a_sca (List.length sca) c_sca, .slice a_scb (List.length scb) c_scb, .bool scc, .bool scd] 26] := Hv71.trans (Ev.call (R := [.box bk1 [.slice a_sa (List.length sa) c_sa, .slice a_sba (List.length sba) c_sba, .slice a_sbb (List.length sbb) c_sbb, .bool sbc, .bool sbd, .slice a_sca (List.length sca) c_sca, .slice a_scb (List.length scb) c_scb, .bool scc, .bool scd] 26]) Hv71.heap [0] (by kernel_rfl) (by decide) he78)
        clear hM73 he78
        refine any_pureR (d := some 15) En76 (v := .bool (relayF sa sba sbb sbc sbd sca scb scc scd == relayF sa sba sbb sbc sbd sca scb scc scd)) 6 (by kernel_rfl) (by kernel_rfl) rfl ?_
        intro ac79 En80
        rw [show (relayF sa sba sbb sbc sbd sca scb scc scd == relayF sa sba sbb sbc sbd sca scb scc scd) = true from (by simp)] at En80
        refine any_pureR (d := some 16) En80 (v := .bool true) 7 (by kernel_rfl) (by kernel_rfl) rfl ?_
        intro ac81 En82
        refine any_pureR (d := some 17) En82 (v := .bool true) 8 (by kernel_rfl) (by kernel_rfl) rfl ?_
        intro ac83 En84
        refine any_pureR (d := some 18) En84 (v := .pointer (some ⟨bk1, 0, none⟩)) 9 (by kernel_rfl) (by kernel_rfl) rfl ?_
        intro ac85 En86
        refine any_pureR (d := some 21) En86 (v := .string (bstr sa)) 12 (by kernel_rfl) (by kernel_rfl) rfl ?_
        intro ac87 En88
        refine any_at 10 (by kernel_rfl) rfl ?_
        refine op_loadbox (d := some 19) (t := 22) (b := bk1) (off := 0) (k := 0) (v := .slice a_sa (List.length sa) c_sa) En88 (by kernel_rfl) Hv77 rfl rfl (by kernel_rfl) ?_
        intro ac89 En90
        refine any_at 11 (by kernel_rfl) rfl ?_
        refine op_str (d := some 20) (src := 22) (dst := 9) (e := 5) (ao := a_sa) (cap := c_sa) (p := List.length sa) (bs := sa) En90 (by kernel_rfl) rfl (by kernel_rfl) (by kernel_rfl) (by kernel_rfl) (i_sa.ev Hv77).reads i_sa.nz ?_
        intro ac91 En92
        refine any_pureR (d := some 22) En92 (v := .bool (ByteArray.toList (bstr sa) == ByteArray.toList (bstr sa))) 13 (by kernel_rfl) (by kernel_rfl) rfl ?_
        intro ac93 En94
        rw [Go.Dbr.bstr_eq sa sa, show (sa == sa) = true from (by simp)] at En94
        refine any_pureR (d := some 23) En94 (v := .bool true) 14 (by kernel_rfl) (by kernel_rfl) rfl ?_
        intro ac95 En96
        refine any_pureR (d := some 2) En96 (v := .bool true) 15 (by kernel_rfl) (by kernel_rfl) rfl ?_
        intro ac97 En98
        exact any_end (by kernel_rfl) ⟨En98.sub (by kernel_rfl), Hv77.pick [0] (by kernel_rfl) (by decide)⟩
    · rintro _ rfl
      refine op_loadaggbox (d := some 13) (t := 26) (b := bk1) (off := 0) (k := 0) (m := 9) (xs := [.slice a_sa (List.length sa) c_sa, .slice a_sba (List.length sba) c_sba, .slice a_sbb (List.length sbb) c_sbb, .bool sbc, .bool sbd, .slice a_sca (List.length sca) c_sca, .slice a_scb (List.length scb) c_scb, .bool scc, .bool scd]) En28 (by kernel_rfl) wo24 rfl rfl rfl (by kernel_rfl) (by kernel_rfl) ?_
      intro ac99 En100
      refine any_at 2 (by kernel_rfl) rfl ?_
      refine op_loadaggbox (d := some 11) (t := 26) (b := bk1) (off := 0) (k := 0) (m := 9) (xs := [.slice a_sa (List.length sa) c_sa, .slice a_sba (List.length sba) c_sba, .slice a_sbb (List.length sbb) c_sbb, .bool sbc, .bool sbd, .slice a_sca (List.length sca) c_sca, .slice a_scb (List.length scb) c_scb, .bool scc, .bool scd]) En100 (by kernel_rfl) wo24 rfl rfl rfl (by kernel_rfl) (by kernel_rfl) ?_
      intro ac101 En102
      refine any_at 3 (by kernel_rfl) rfl ?_
      have hM103 : Heap wo10.drew [] := wo24.heap.pick [] (by kernel_rfl) (by decide)
      refine op_call (d := some 12) (f := 9) (args := #[.agg #[.slice a_sa (List.length sa) c_sa, .slice a_sba (List.length sba) c_sba, .slice a_sbb (List.length sbb) c_sbb, .bool sbc, .bool sbd, .slice a_sca (List.length sca) c_sca, .slice a_scb (List.length scb) c_scb, .bool scc, .bool scd]]) En102 (by kernel_rfl) ((relay_go _ a_sa (List.length sa) c_sa sa (by first | rfl | (simp; done) | (simp; omega) | omega) ((i_sa.ev wo24).pick [] (by kernel_rfl)) a_sba (List.length sba) c_sba sba (by first | rfl | (simp; done) | (simp; omega) | omega) ((i_sba.ev wo24).pick [] (by kernel_rfl)) a_sbb (List.length sbb) c_sbb sbb (by first | rfl | (simp; done) | (simp; omega) | omega) ((i_sbb.ev wo24).pick [] (by kernel_rfl)) sbc sbd a_sca (List.length sca) c_sca sca (by first | rfl | (simp; done) | (simp; omega) | omega) ((i_sca.ev wo24).pick [] (by kernel_rfl)) a_scb (List.length scb) c_scb scb (by first | rfl | (simp; done) | (simp; omega) | omega) ((i_scb.ev wo24).pick [] (by kernel_rfl)) scc scd (by first | omega | (simp; done) | (simp; omega))).mono ?_)
      rintro _ wo105 ⟨rfl, he108⟩
      refine ⟨_, rfl, ?_⟩
      intro ac104 En106
      have Hv107 : Ev w [] wo105 [.box bk1 [.slice a_sa (List.length sa) c_sa, .slice a_sba (List.length sba) c_sba, .slice a_sbb (List.length sbb) c_sbb, .bool sbc, .bool sbd, .slice a_sca (List.length sca) c_sca, .slice a_scb (List.length scb) c_scb, .bool scc, .bool scd] 26] := wo24.trans (Ev.call (R := [.box bk1 [.slice a_sa (List.length sa) c_sa, .slice a_sba (List.length sba) c_sba, .slice a_sbb (List.length sbb) c_sbb, .bool sbc, .bool sbd, .slice a_sca (List.length sca) c_sca, .slice a_scb (List.length scb) c_scb, .bool scc, .bool scd] 26]) wo24.heap [0] (by kernel_rfl) (by decide) he108)
      clear hM103 he108
      refine any_at 5 (by kernel_rfl) rfl ?_
      have hM109 : Heap wo105 [] := Hv107.heap.pick [] (by kernel_rfl) (by decide)
      refine op_call (d := some 14) (f := 10) (args := #[.agg #[.slice a_sa (List.length sa) c_sa, .slice a_sba (List.length sba) c_sba, .slice a_sbb (List.length sbb) c_sbb, .bool sbc, .bool sbd, .slice a_sca (List.length sca) c_sca, .slice a_scb (List.length scb) c_scb, .bool scc, .bool scd]]) En106 (by kernel_rfl) ((relay_ref _ a_sa (List.length sa) c_sa sa (by first | rfl | (simp; done) | (simp; omega) | omega) ((i_sa.ev Hv107).pick [] (by kernel_rfl)) a_sba (List.length sba) c_sba sba (by first | rfl | (simp; done) | (simp; omega) | omega) ((i_sba.ev Hv107).pick [] (by kernel_rfl)) a_sbb (List.length sbb) c_sbb sbb (by first | rfl | (simp; done) | (simp; omega) | omega) ((i_sbb.ev Hv107).pick [] (by kernel_rfl)) sbc sbd a_sca (List.length sca) c_sca sca (by first | rfl | (simp; done) | (simp; omega) | omega) ((i_sca.ev Hv107).pick [] (by kernel_rfl)) a_scb (List.length scb) c_scb scb (by first | rfl | (simp; done) | (simp; omega) | omega) ((i_scb.ev Hv107).pick [] (by kernel_rfl)) scc scd (by first | omega | (simp; done) | (simp; omega))).mono ?_)
      rintro _ wo111 ⟨rfl, he114⟩
      refine ⟨_, rfl, ?_⟩
      intro ac110 En112
      have Hv113 : Ev w [] wo111 [.box bk1 [.slice a_sa (List.length sa) c_sa, .slice a_sba (List.length sba) c_sba, .slice a_sbb (List.length sbb) c_sbb, .bool sbc, .bool sbd, .slice a_sca (List.length sca) c_sca, .slice a_scb (List.length scb) c_scb, .bool scc, .bool scd] 26] := Hv107.trans (Ev.call (R := [.box bk1 [.slice a_sa (List.length sa) c_sa, .slice a_sba (List.length sba) c_sba, .slice a_sbb (List.length sbb) c_sbb, .bool sbc, .bool sbd, .slice a_sca (List.length sca) c_sca, .slice a_scb (List.length scb) c_scb, .bool scc, .bool scd] 26]) Hv107.heap [0] (by kernel_rfl) (by decide) he114)
      clear hM109 he114
      refine any_pureR (d := some 15) En112 (v := .bool (relayF sa sba sbb sbc sbd sca scb scc scd == relayF sa sba sbb sbc sbd sca scb scc scd)) 6 (by kernel_rfl) (by kernel_rfl) rfl ?_
      intro ac115 En116
      rw [show (relayF sa sba sbb sbc sbd sca scb scc scd == relayF sa sba sbb sbc sbd sca scb scc scd) = true from (by simp)] at En116
      refine any_pureR (d := some 16) En116 (v := .bool true) 7 (by kernel_rfl) (by kernel_rfl) rfl ?_
      intro ac117 En118
      refine any_pureR (d := some 17) En118 (v := .bool true) 8 (by kernel_rfl) (by kernel_rfl) rfl ?_
      intro ac119 En120
      refine any_pureR (d := some 18) En120 (v := .pointer (some ⟨bk1, 0, none⟩)) 9 (by kernel_rfl) (by kernel_rfl) rfl ?_
      intro ac121 En122
      refine any_pureR (d := some 21) En122 (v := .string (bstr sa)) 12 (by kernel_rfl) (by kernel_rfl) rfl ?_
      intro ac123 En124
      refine any_at 10 (by kernel_rfl) rfl ?_
      refine op_loadbox (d := some 19) (t := 22) (b := bk1) (off := 0) (k := 0) (v := .slice a_sa (List.length sa) c_sa) En124 (by kernel_rfl) Hv113 rfl rfl (by kernel_rfl) ?_
      intro ac125 En126
      refine any_at 11 (by kernel_rfl) rfl ?_
      refine op_str (d := some 20) (src := 22) (dst := 9) (e := 5) (ao := a_sa) (cap := c_sa) (p := List.length sa) (bs := sa) En126 (by kernel_rfl) rfl (by kernel_rfl) (by kernel_rfl) (by kernel_rfl) (i_sa.ev Hv113).reads i_sa.nz ?_
      intro ac127 En128
      refine any_pureR (d := some 22) En128 (v := .bool (ByteArray.toList (bstr sa) == ByteArray.toList (bstr sa))) 13 (by kernel_rfl) (by kernel_rfl) rfl ?_
      intro ac129 En130
      rw [Go.Dbr.bstr_eq sa sa, show (sa == sa) = true from (by simp)] at En130
      refine any_pureR (d := some 23) En130 (v := .bool true) 14 (by kernel_rfl) (by kernel_rfl) rfl ?_
      intro ac131 En132
      refine any_pureR (d := some 2) En132 (v := .bool true) 15 (by kernel_rfl) (by kernel_rfl) rfl ?_
      intro ac133 En134
      exact any_end (by kernel_rfl) ⟨En134.sub (by kernel_rfl), Hv113.pick [0] (by kernel_rfl) (by decide)⟩
  rintro ac135 wo136 ⟨En137, Hv138⟩
  refine then_normal ?_
  refine wp_ret ?_
  refine d_ret1 (t := 2) (v := .bool true) En137 (by kernel_rfl) (by kernel_rfl) ?_
  exact ⟨rfl, Hv138.pick [] (by kernel_rfl) (by decide)⟩

end Go.Proofs.Ytjecaljhipfbfaa
